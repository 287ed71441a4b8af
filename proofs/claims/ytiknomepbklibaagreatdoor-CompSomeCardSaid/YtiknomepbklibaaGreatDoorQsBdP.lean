/-
  Closed by a track, plainly.
-/
import Derived.Test.YtiknomepbklibaaGreatDoorQsCl
set_option maxRecDepth 100000
set_option linter.unnecessarySimpa false
set_option linter.unusedSectionVars false
set_option linter.unusedSimpArgs false
set_option linter.unusedVariables false
namespace Go.Proofs.YtiknomepbklibaaGreatDoor
section
variable {a:Au} {k s:Nat} {l:List Bool}

inductive vP(a:Au)(k:Nat):Nat→Prop
 |acc {s:Nat} (h:a.ok s=true):vP a k s
 |low {s:Nat} (h:vP a k (a.go s 0)):vP a k s
 |high {s:Nat} (h:vP a k (a.go s (2^k))):vP a k s
def I8(l:List Bool)(s:Nat):Bool:=(l[s]?).getD false
structure EO(a:Au)(k:Nat)(l:List Bool):Prop where
 len:l.length=a.n
 iff: ∀s,s<a.n→(I8 l s=true↔vP a k s)
theorem EO.uniq{l':List Bool}(h:EO a k l)(h':EO a k l'):l=l':=by
 apply List.ext_getElem?;intro s
 by_cases hs:s<a.n
 ·have e:I8 l s=I8 l' s:=by
   rw[Bool.eq_iff_iff,h.iff s hs,h'.iff s hs]
  unfold I8 at e;rw[List.getElem?_eq_getElem (by rw[h.len];exact hs),List.getElem?_eq_getElem (by rw[h'.len];exact hs)]at e ⊢;exact congrArg some e
 ·rw[List.getElem?_eq_none (by rw[h.len];omega),List.getElem?_eq_none (by rw[h'.len];omega)]
theorem JH{c:Nat}{r:List Int}{z:Int}(h1:a.nx[s]? =some r)(h2:r[c]? =some z):a.go s c=z.toNat:=by
 unfold Au.go;rw[h1,Option.getD_some,h2,Option.getD_some]
def Xz(l:List Bool):Nat:=l.countP fun b=> !b
theorem NX: ∀{l:List Bool} {j:Nat},l[j]? =some false→Xz (l.set j true)+1=Xz l
 |[],j,h=>by simp at h
 |b::l,0,h=>by
  injection h with h
  subst h;rw[List.set_cons_zero,Xz,Xz,List.countP_cons,List.countP_cons];simp
 |b::l,j+1,h=>by
  have:=NX (l:=l) (j:=j) h;rw[List.set_cons_succ,Xz,Xz,List.countP_cons,List.countP_cons];rw[Xz,Xz]at this;omega
theorem TF{j:Nat}{b:Bool}(hj:j<l.length):I8 (l.set j b) s=if s=j then b else I8 l s:=by
 unfold I8;rw[List.getElem?_set]
 by_cases h:j=s
 ·subst h;rw[if_pos rfl,if_pos hj,if_pos rfl];rfl
 ·rw[if_neg h,if_neg fun e=>h e.symm]
theorem Ym{b:Bool}(h:l[s]? =some b):I8 l s=b:=by unfold I8;rw[h];rfl
structure Kq(a:Au)(k:Nat)(l:List Bool):Prop where
 len:l.length=a.n
 sound: ∀s,s<a.n→I8 l s=true→vP a k s
 ext: ∀s,s<a.n→a.ok s=true→I8 l s=true
theorem Kq.start(a:Au)(k:Nat):Kq a k a.acc:=⟨rfl,fun s _ h=>.acc h,fun s _ h=>h⟩
theorem Kq.set{a:Au}{k s:Nat}{l:List Bool}(h:Kq a k l)(hs:s<a.n)(h0:a.go s 0<a.n)(h1:a.go s (2^k)<a.n)(hb:I8 l (a.go s 0)=true∨I8 l (a.go s (2^k))=true):Kq a k (l.set s true):=by
 have hl:s<l.length:=by rw[h.len];exact hs
 refine⟨by rw[List.length_set];exact h.len,fun t ht e=>?_,fun t ht e=>?_⟩
 ·rw[TF hl]at e
  by_cases hts:t=s
  ·subst hts;rcases hb with hb|hb
   ·exact .low (h.sound _ h0 hb)
   ·exact .high (h.sound _ h1 hb)
  ·rw[if_neg hts]at e;exact h.sound t ht e
 ·rw[TF hl]
  split
  ·rfl
  ·exact h.ext t ht e
def O6(a:Au)(k:Nat)(l:List Bool)(s:Nat):Prop:=I8 l (a.go s 0)=true∨I8 l (a.go s (2^k))=true→I8 l s=true
theorem Kq.done(h:Kq a k l)(W:Zp a)(hk:2^k<a.K)(hc: ∀s,s<a.n→O6 a k l s):EO a k l:=by
 refine⟨h.len,fun s hs=>⟨h.sound s hs,fun hp=>?_⟩⟩;have hK:0<a.K:=Nat.two_pow_pos _
 induction hp with
 |acc e=>exact h.ext _ hs e
 |low _ ih=>exact hc _ hs (.inl (ih (W.UP hs hK)))
 |high _ ih=>exact hc _ hs (.inr (ih (W.UP hs hk)))
structure CH(a:Au)(k:Nat)(l0 l:List Bool)(more:Bool)(s:Nat):Prop where
 inv:Kq a k l
 le:Xz l≤Xz l0
 yes:more=true→Xz l<Xz l0
 no:more=false→l=l0∧ ∀t,t<s→O6 a k l t
theorem CH.start(h:Kq a k l):CH a k l l false 0:=⟨h,Nat.le_refl _,fun e=>(by cases e),fun _=>⟨rfl,fun t ht=>absurd ht (Nat.not_lt_zero t)⟩⟩
theorem CH.keep{l0:List Bool}{more:Bool}(h:CH a k l0 l more s)(hc:O6 a k l s):CH a k l0 l more (s+1):=
 ⟨h.inv,h.le,h.yes,fun e=>⟨(h.no e).1,fun t ht=>by
  rcases Nat.lt_succ_iff_lt_or_eq.1 ht with h1|rfl
  ·exact(h.no e).2 t h1
  ·exact hc⟩⟩
theorem CH.set{a:Au}{k s:Nat}{l0 l:List Bool}{more:Bool}(h:CH a k l0 l more s)(hs:s<a.n)(h0:a.go s 0<a.n)(h1:a.go s (2^k)<a.n)(hf:l[s]? =some false)(hb:I8 l (a.go s 0)=true∨I8 l (a.go s (2^k))=true):CH a k l0 (l.set s true) true (s+1):=by
 have:=NX hf;have:=h.le;exact⟨h.inv.set hs h0 h1 hb,by omega,fun _=>by omega,fun e=>(by cases e)⟩
def I1(l:List Bool)(more:Bool):Nat:=2 *Xz l+(if more then 1 else 0)
theorem CH.fF{l0:List Bool}{more:Bool}(h:CH a k l0 l more s):I1 l more<I1 l0 true:=by
 unfold I1;rw[if_pos rfl]
 cases more with
 |true=>have:=h.yes rfl;rw[if_pos rfl];omega
 |false=>have:=h.le;rw[if_neg Q8];omega
end
section
open Go Go.RowKit

theorem Em(n:Nat):((2^n:Nat):Int)=(2:Int)^n:=by rw[Int.natCast_pow];rfl
theorem Nn{n:Nat}(h:n≤62):2^n≤4611686018427387904:=Nat.le_trans (Nat.pow_le_pow_right Q8 h) Q8
theorem US{P:Program}{G:Env}{K:List (Nat×AV)}{st:St}{t yt:TypeId}{x y:Operand}{k:IntKind}{n:Nat}(hx:QT G K x=some (.int .i64 1))(hy:QT G K y=some (.int k ((n:Nat):Int)))(h:n≤62):U2 P G K (.binOp .shl t x y yt) st (.int .i64 (2^n:Nat)) st:=
 UN hx hy (by
  have hp:((2^n:Nat):Int)≤4611686018427387904:=Int.ofNat_le.2 (Nn h);have hp0:(0:Int)≤((2^n:Nat):Int):=Int.natCast_nonneg _;show Qj (Cd ((n:Nat):Int) 0) none (XU (Ve .i64 (1 *2^(min ((n:Nat):Int).toNat 64))) fun z=>some (AV.int .i64 z))=_
  rw[Zb,decide_eq_false Qc,Yu,UH,Int.toNat_natCast,Nat.min_eq_left Qc,Int.one_mul,←Em,wrap64 (Int.le_trans Q8 hp0) (Int.le_trans hp Q8)];rfl)
end
section
open Go Go.RowKit
variable {a b:Nat}

section
variable {P:Program} {G:Env} {K:List (Nat×AV)} {st:St} {t yt:TypeId} {x y:Operand}
theorem Kg(ha:a≤9223372036854775807):(BitVec.ofInt 64 ((a:Nat):Int)).toNat=a:=by
 rw[BitVec.ofInt_natCast,BitVec.toNat_ofNat];exact Nat.mod_eq_of_lt Qc
theorem HV(hx:QT G K x=some (.int .i64 (a:Nat)))(hy:QT G K y=some (.int .i64 (b:Nat)))(ha:a≤9223372036854775807)(hb:b≤9223372036854775807):U2 P G K (.binOp .and t x y yt) st (.int .i64 (a&&&b:Nat)) st:=
 UN hx hy (by
  rw[Va Q8 Q8];show XU (IntKind.i64.wrap (((BitVec.ofInt 64 ((a:Nat):Int)&&&BitVec.ofInt 64 ((b:Nat):Int)).toNat:Nat):Int)) (fun z=>some (AV.int .i64 z))=_;have h:a&&&b≤a:=Nat.and_le_left
  rw[BitVec.toNat_and,Kg ha,Kg hb,Yu,wrap64 Qc Qc])
theorem Z0(hx:QT G K x=some (.int .i64 (a:Nat)))(hy:QT G K y=some (.int .i64 1))(ha:a≤9223372036854775807):U2 P G K (.binOp .and t x y yt) st (.int .i64 (a % 2:Nat)) st:=by
 have:=HV (P:=P) (st:=st) (t:=t) (yt:=yt) (b:=1) hx hy ha Q8;rw[Nat.and_one_is_mod]at this;exact this
theorem xP(ha:a≤9223372036854775807)(hb:b≤9223372036854775807):a|||b≤9223372036854775807:=by
 have:=Nat.or_lt_two_pow (n:=63) (show a<2^63 by omega) (show b<2^63 by omega);omega
theorem BN(hx:QT G K x=some (.int .i64 (a:Nat)))(hy:QT G K y=some (.int .i64 (b:Nat)))(ha:a≤9223372036854775807)(hb:b≤9223372036854775807):U2 P G K (.binOp .or t x y yt) st (.int .i64 (a|||b:Nat)) st:=
 UN hx hy (by
  rw[Va Q8 Q8];show XU (IntKind.i64.wrap (((BitVec.ofInt 64 ((a:Nat):Int)|||BitVec.ofInt 64 ((b:Nat):Int)).toNat:Nat):Int)) (fun z=>some (AV.int .i64 z))=_;have h:=xP ha hb
  rw[BitVec.toNat_or,Kg ha,Kg hb,Yu,wrap64 Qc Qc])
theorem ZX{k:IntKind}{n:Nat}(hx:QT G K x=some (.int .i64 (a:Nat)))(hy:QT G K y=some (.int k ((n:Nat):Int)))(hn:n≤62):U2 P G K (.binOp .shr t x y yt) st (.int .i64 (a/2^n:Nat)) st:=
 UN hx hy (by
  show Qj (Cd ((n:Nat):Int) 0) none (XU (((a:Nat):Int).fdiv (2^(min ((n:Nat):Int).toNat 64))) fun z=>some (AV.int .i64 z))=_
  rw[Zb,decide_eq_false Qc,Yu,Int.toNat_natCast,Nat.min_eq_left Qc,←Em,←Int.ofNat_fdiv];rfl)
theorem Ly{k:IntKind}{n:Nat}(hx:QT G K x=some (.int .i64 (a:Nat)))(hy:QT G K y=some (.int k ((n:Nat):Int)))(hn:n≤62)(hb:a *2^n≤9223372036854775807):U2 P G K (.binOp .shl t x y yt) st (.int .i64 (a *2^n:Nat)) st:=
 UN hx hy (by
  show Qj (Cd ((n:Nat):Int) 0) none (XU (Ve .i64 (((a:Nat):Int) *2^(min ((n:Nat):Int).toNat 64))) fun z=>some (AV.int .i64 z))=_
  rw[Zb,decide_eq_false Qc,Yu,UH,Int.toNat_natCast,Nat.min_eq_left Qc,←Em,←Int.natCast_mul,wrap64 Qc Qc];rfl)
theorem wY{a b:Bool}(ht:P.underlying t=some .bool)(hx:QT G K x=some (.bool a))(hy:QT G K y=some (.bool b)):U2 P G K (.binOp .neq t x y yt) st (.bool (!(a==b))) st:=
 UN hx hy (by
  show QJ (E6 (P.underlying t) (.bool a)) (ob (EK (.bool a) (.bool b)) fun b=>some (AV.bool !b))=_;rw[ht]
  cases a<;>cases b<;>rfl)
theorem TG(c t:Nat):(((c/2^t % 2:Nat):Int)=1)↔c.testBit t=true:=by
 rw[Nat.testBit_eq_decide_div_mod_eq,decide_eq_true_eq];omega
end
end
section
open Go Go.RowKit
variable {a:Au} {c k n u:Nat} {q:List Int}

def Zq(k c u:Nat):Nat:=c % 2^k+u *2^k+c/2^k *2^(k+1)
theorem IT(k c:Nat):c % 2^k<2^k:=Nat.mod_lt _ (Nat.two_pow_pos k)
theorem G7{a q:Nat}(h:a<2^k):a|||q *2^k=a+q *2^k:=by
 have:=Nat.two_pow_add_eq_or_of_lt h q;rw[Nat.or_comm,Nat.mul_comm q,←this,Nat.add_comm]
theorem SY(k c:Nat):c % 2^k|||c/2^k *2^(k+1)=Zq k c 0:=by
 have h1:=IT k c;have h2:2^k≤2^(k+1):=Nat.pow_le_pow_right Q8 Qc;rw[G7 Qc,Zq,Nat.zero_mul,Nat.add_zero (c % 2^k)]
theorem x9(k c:Nat):Zq k c 0|||2^k=Zq k c 1:=by
 have h1:=IT k c
 have h2:2^(k+1)=2 *2^k:=by rw[Nat.pow_succ,Nat.mul_comm]
 have e:=G7 (k:=k) (q:=1) h1;rw[Nat.one_mul]at e;rw[←SY,Nat.or_assoc,Nat.or_comm (c/2^k *2^(k+1)),←Nat.or_assoc,e,G7 Qc,Zq,Nat.one_mul]
theorem BH(hu:u≤1):c % 2^k|||u *2^k=c % 2^k+u *2^k:=G7 (IT k c)
theorem jB(hu:u≤1):(c % 2^k|||u *2^k)|||c/2^k *2^(k+1)=Zq k c u:=by
 have h1:=IT k c
 have h2:2^(k+1)=2 *2^k:=by rw[Nat.pow_succ,Nat.mul_comm]
 have h3:u *2^k≤1 *2^k:=Nat.mul_le_mul_right _ hu;rw[BH hu,G7 Qc,Zq]
theorem IJ{T:Nat}(hk:k<T)(hc:c<2^(T-1))(hu:u≤1):Zq k c u<2^T:=by
 have h1:=IT k c;have h3:u *2^k≤1 *2^k:=Nat.mul_le_mul_right _ hu
 have h4:c/2^k<2^(T-1-k):=by
  rw[Nat.div_lt_iff_lt_mul (Nat.two_pow_pos k),←Nat.pow_add,show T-1-k+k=T-1 by omega];exact hc
 have h5:(c/2^k+1) *2^(k+1)≤2^(T-1-k) *2^(k+1):=Nat.mul_le_mul_right _ h4;rw[←Nat.pow_add,show T-1-k+(k+1)=T by omega,Nat.succ_mul]at h5
 have h2:2^(k+1)=2 *2^k:=by rw[Nat.pow_succ,Nat.mul_comm]
 unfold Zq;omega
section
variable {P:Program} {G:Env} {K:List (Nat×AV)} {st:St} {t yt:TypeId} {x y:Operand}
theorem Td(hx:QT G K x=some (.int .i64 (c:Nat)))(hy:QT G K y=some (.int .i64 (((2^k:Nat):Int)-1)))(hc:c≤9223372036854775807)(hk:k≤62):U2 P G K (.binOp .and t x y yt) st (.int .i64 (c % 2^k:Nat)) st:=by
 have hp:2^k≤2^62:=Nat.pow_le_pow_right Q8 hk;have h0:=Nat.two_pow_pos k;have:=HV (P:=P) (st:=st) (t:=t) (yt:=yt) (a:=c) (b:=2^k-1) hx (by rw[hy];congr 2;omega) hc Qc
 rwa [Nat.and_two_pow_sub_one_eq_mod]at this
theorem jY{kk:IntKind}(hx:QT G K x=some (.int .i64 (((c:Nat):Int)-((c % 2^k:Nat):Int))))(hy:QT G K y=some (.int kk 1))(hc:c *2≤9223372036854775807):U2 P G K (.binOp .shl t x y yt) st (.int .i64 (c/2^k *2^(k+1):Nat)) st:=by
 have h1:=Nat.div_add_mod c (2^k)
 have h2:c/2^k *2^(k+1)=(2^k *(c/2^k)) *2^1:=by rw[Nat.pow_succ,Nat.pow_one,←Nat.mul_assoc,Nat.mul_comm (c/2^k)]
 rw[h2];exact Ly (n:=1) (by rw[hx];congr 2;omega) hy Q8 Qc
end
def WK(a:Au)(k c:Nat)(q:List Int):List Int:=q.flatMap fun z=>[((a.go z.toNat (Zq k c 0):Nat):Int),((a.go z.toNat (Zq k c 1):Nat):Int)]
theorem IQ(a:Au)(k c:Nat)(q:List Int):(WK a k c q).length=2 *q.length:=by
 induction q with
 |nil=>rfl
 |cons z q ih=>unfold WK at ih ⊢;rw[List.flatMap_cons,List.length_append,ih,List.length_cons];simp;omega
theorem N6{i:Nat}{z:Int}(h:q[i]? =some z):WK a k c (q.take (i+1))=WK a k c (q.take i)++[((a.go z.toNat (Zq k c 0):Nat):Int),((a.go z.toNat (Zq k c 1):Nat):Int)]:=by
 unfold WK;rw[List.take_add_one,h,List.flatMap_append];rfl
theorem GF{x:Int}:x∈WK a k c q↔ ∃z∈q,∃u,u≤1∧x=((a.go z.toNat (Zq k c u):Nat):Int):=by
 unfold WK;rw[List.mem_flatMap];constructor
 ·rintro⟨z,hz,h⟩
  simp only[List.mem_cons,List.not_mem_nil,or_false]at h;rcases h with h|h
  ·exact⟨z,hz,0,by decide,h⟩
  ·exact⟨z,hz,1,by decide,h⟩
 ·rintro⟨z,hz,u,hu,h⟩
  refine⟨z,hz,?_⟩
  have:u=0∨u=1:=by omega
  rcases this with rfl|rfl<;>simp[h]
def JY(a:Au)(k:Nat)(q:List Int)(c:Nat):List Int:=JP (WK a k c q)
def F9(n:Nat)(q:List Int):Prop:=Wg q∧ ∀z∈q,0≤z∧z<((n:Nat):Int)
theorem Md(h:Wg q):JP q=q:=Dv (Vo q) h fun x=>XM q x
theorem Du: ∀{q:List Int} {lo hi:Int},Wg q→(∀z∈q,lo≤z∧z<hi)→lo≤hi→(q.length:Int)≤hi-lo
 |[],lo,hi,_,_,h=>by simp;omega
 |x::q,lo,hi,h,hb,hl=>by
  obtain⟨h1,h2⟩:=List.pairwise_cons.1 h;have hx:=hb x Q4;have:=Du (lo:=x+1) (hi:=hi) h2 (fun z hz=>⟨by have:=h1 z hz;omega,(hb z (by simp[hz])).2⟩) Qc;rw[List.length_cons];omega
theorem F9.len(h:F9 n q):q.length≤n:=by
 have:=Du h.1 h.2 Qc;omega
theorem F9.F7(h:F9 n q)(hn:n≤400):X5 q:=fun z hz=>by
 have:=h.2 z hz
 constructor<;>omega
theorem F9.zero(h:1≤n):F9 n [0]:=⟨List.pairwise_singleton _ _,fun z hz=>by rw[List.mem_singleton.1 hz];omega⟩
theorem F9.step(W:Zp a)(hk:k<a.tr)(hc:c<2^(a.tr-1))(h:F9 a.n q):F9 a.n (JY a k q c):=by
 refine⟨Vo _,fun z hz=>?_⟩;obtain⟨y,hy,u,hu,rfl⟩:=GF.1 ((XM _ z).1 hz);have:=h.2 y hy;have:=W.UP (s:=y.toNat) (c:=Zq k c u) Qc (IJ hk hc hu);omega
def anyS(acc:List Bool)(s:List Int):Bool:=s.any fun z=>I8 acc z.toNat
theorem G8{L:List (List Int)}(h:Wg q):(MA L q<L.length∧F6 L q=L∧L[MA L q]? =some q)∨(MA L q=L.length∧F6 L q=L++[q]∧q∉L):=by
 unfold MA F6;rw[Md h]
 cases hn:XX 0 L q with
 |some i=>
  have h1:=(GA hn).2;rw[Nat.sub_zero]at h1;exact .inl ⟨(List.getElem?_eq_some_iff.1 h1).1,rfl,h1⟩
 |none=>exact .inr ⟨rfl,rfl,IN hn⟩
structure V1{α:Type}(δ:α→Nat→α)(s0:α)(K:Nat)(L:List α)(rows:List (List Int))(row:List Int):Prop where
 ex: ∃es,Hz δ s0 K L es∧rows.flatten++row=es.map fun v=>((v:Nat):Int)
 len: ∀r∈rows,r.length=K
 less:row.length≤K
section
variable {α:Type} {δ:α→Nat→α} {s0:α} {K:Nat} {L:List α} {rows:List (List Int)} {row:List Int}
theorem V1.start(δ:α→Nat→α)(s0:α)(K:Nat):V1 δ s0 K [s0] [] []:=⟨⟨[],Hz.start δ s0 K,rfl⟩,fun r h=>(by cases h),Nat.zero_le _⟩
theorem V1.at_(H:V1 δ s0 K L rows row)(hr:row.length<K){es:List Nat}(e:rows.flatten++row=es.map fun v=>((v:Nat):Int)):es.length/K=rows.length∧es.length % K=row.length:=by
 have h1:=congrArg List.length e;rw[List.length_append,GR H.len,List.length_map]at h1;rw[←h1,Nat.mul_comm];exact⟨by rw[Nat.mul_add_div Qc,Nat.div_eq_of_lt hr];rfl,by rw[Nat.mul_add_mod];exact Nat.mod_eq_of_lt hr⟩
theorem V1.J9(H:V1 δ s0 K L rows row)(hr:row.length<K){s:α}(hs:L[rows.length]? =some s){j:Nat}(hj:L[j]? =some (δ s row.length)):V1 δ s0 K L rows (row++[((j:Nat):Int)]):=by
 obtain⟨es,E,e⟩:=H.ex;obtain⟨h1,h2⟩:=H.at_ hr e;exact⟨⟨es++[j],E.J9 (by rw[h1];exact hs) (by rw[h2];exact hj),by rw[←List.append_assoc,e,List.map_append];rfl⟩,H.len,by rw[List.length_append];simp;omega⟩
theorem V1.new(H:V1 δ s0 K L rows row)(hr:row.length<K){s:α}(hs:L[rows.length]? =some s)(hn:δ s row.length∉L):V1 δ s0 K (L++[δ s row.length]) rows (row++[((L.length:Nat):Int)]):=by
 obtain⟨es,E,e⟩:=H.ex;obtain⟨h1,h2⟩:=H.at_ hr e;have:=E.new (by rw[h1];exact hs) (by rw[h2];exact hn);rw[h2]at this;exact⟨⟨es++[L.length],this,by rw[←List.append_assoc,e,List.map_append];rfl⟩,H.len,by rw[List.length_append];simp;omega⟩
theorem V1.whole(H:V1 δ s0 K L rows row)(hr:row.length=K):V1 δ s0 K L (rows++[row]) []:=by
 obtain⟨es,E,e⟩:=H.ex;refine⟨⟨es,E,by simpa using e⟩,fun r h=>?_,Nat.zero_le _⟩;rcases List.mem_append.1 h with h|h
 ·exact H.len r h
 ·rw[List.mem_singleton.1 h];exact hr
theorem V1.made{p:α→Bool}{m:Au}(H:V1 δ s0 m.K L m.nx [])(hl:m.nx.length=L.length)(ha:m.acc=L.map p)(ht:m.tr≤6)(hm:L.length≤400):UA δ s0 p L m:=by
 obtain⟨es,E,e⟩:=H.ex;rw[List.append_nil]at e;exact⟨⟨es,E,⟨H.len,e⟩⟩,hl,ha,ht,hm⟩
theorem V1.nodup(H:V1 δ s0 K L rows row):L.Nodup:=by obtain⟨es,E,e⟩:=H.ex;exact E.nodup
theorem V1.bound(H:V1 δ s0 K L rows row): ∀z∈rows.flatten++row,0≤z∧z<((L.length:Nat):Int):=by
 obtain⟨es,E,e⟩:=H.ex;intro z hz;rw[e]at hz;obtain⟨v,hv,rfl⟩:=List.mem_map.1 hz;obtain⟨i,hi⟩:=List.getElem?_of_mem hv;have:=E.lt hi;omega
theorem V1.all(H:V1 δ s0 K L rows row){Q:α→Prop}(h0:Q s0)(hs: ∀s c,Q s→c<K→Q (δ s c))(hK:0<K){s:α}(h:s∈L):Q s:=by
 obtain⟨es,E,e⟩:=H.ex;obtain⟨i,hi⟩:=List.getElem?_of_mem h;exact E.all h0 (fun s c hq hc=>hs s c hq (hc hK)) i s hi
end
theorem V1.id{K:Nat}{L:List (List Int)}{rows:List (List Int)}{row:List Int}(H:V1 (JY a k) [0] K L rows row)(hr:row.length<K)(hs:L[rows.length]? =some q):V1 (JY a k) [0] K (F6 L (JY a k q row.length)) rows (row++[((MA L (JY a k q row.length):Nat):Int)]):=by
 rcases G8 (L:=L) (q:=JY a k q row.length) (Vo _)with⟨h1,h2,h3⟩|⟨h1,h2,h3⟩
 ·rw[h2];exact H.J9 hr hs h3
 ·rw[h1,h2];exact H.new hr hs h3
end
section
open Go Go.RowKit
set_option maxHeartbeats 8000000

theorem PL{st:St}(hf:Qi st){l:List Int}{kl:AV}(hl:Jg st.h.get [] 1 (zC l) kl)(hns:kl=.nils∨ ∃c m o n,kl=.sl c m o n 1)(hn:l.length≤100000)(x:Nat)(hx:x≤100000): ∃v st',Jf 152 [kl,iN x] st v st'∧ ∃ks b,v=.tup [ks,.bool b]∧(ED st st' 1 ks (zC (Xl ((x:Nat):Int) l))∨(ks=kl∧Xl ((x:Nat):Int) l=l))∧Qt st st':=by
 have hcl:=Qp l;have hlc:=hl.cell;refine J7 Tryz.func152 Tryz.ntmps152 fun T K=>?_;have M:=Mem.start hf;refine Qb 4 K M fun _ K=>?_;refine Ug K rfl (fun _ e9 K=>?_) fun _ e9 K=>?_
 · refine Qb 3 K M fun _ K=>?_;refine Jt K rfl (fun h12=>?_) fun h12=>?_
   ·refine Qb 3 K M ?_
    first
     |(exfalso;omega)
     |exact⟨_,_,rfl,.inr ⟨rfl,Fe hkx (by rw[hi35];exact congrArg some h39)⟩,M.qt⟩
   refine Ra ?_;show W _ _ _ _ _ _ _;refine Jy<|W7<|p1 K (JV rfl) fun _ K=>XT ?_;show W _ _ _ _ _ _ _;refine CM (J:=fun T st9=> ∃(i:Nat),QS [(0,kl),(1,iN x),(4,.nils),(5,.bool false),(6,iN i)] T∧Mem st.h.get st.n [] st9 []∧i≤l.length∧(∀z∈l.take i,z<((x:Nat):Int))∧(∀z,l[i]? =some z→ ¬z<((x:Nat):Int))) ?_ (fun T st9 hJ=>?_)
   ·refine By ?_;refine QX (fun mm1 T st9=> ∃(i:Nat),mm1=l.length-i∧QS [(0,kl),(1,iN x),(4,.nils),(5,.bool false),(6,iN i)] T∧Mem st.h.get st.n [] st9 []∧i≤l.length∧(∀z∈l.take i,z<((x:Nat):Int))) (fun mm1 T st9 hI=>?_) _ _ _ ⟨0,rfl,(K.sub rfl),M.less (.refl _),(Nat.zero_le _),Q4⟩;obtain⟨i,rfl,K,M,hil,hkx⟩:=hI;refine Qb 2 K M fun _ K=>?_;refine p1 K (Q5 Je rfl rfl (hl.len.trans (congrArg some (Qp _)))) fun _ K=>?_;refine Qb 1 K M fun _ K=>?_;refine Ug K rfl (fun _ e18 K=>?_) fun _ e18 K=>?_
    · refine Qb 8 K M fun _ K=>?_;refine QK ?_;exact⟨i,(K.sub rfl),M.less (.refl _),hil,hkx,(fun z hz=>by first|(rw[List.getElem?_eq_none Qc]at hz;cases hz)|(rw[hz]at hi21;injection hi21 with e1;omega))⟩
    refine Qb 2 K M fun _ K=>?_;obtain⟨y21,hi21⟩:=Uy l i Qc;obtain⟨x21,m21,f21,q21,_,la21,lo21,lp21⟩:=(Jg.mem M hl Q4).load (i:=i) (cs:=_) (Jm hi21);refine pg K rfl rfl (Qe (j:=i) Qo (congrArg some q21) rfl (by rw[Qp];omega)) fun _ K=>pg K rfl rfl (Qg rfl (lo21 _ 0 _ Qn rfl)) fun _ K=>?_;refine Qb 3 K M fun _ K=>?_;refine Jt K rfl (fun h25=>?_) fun h25=>?_
    · refine Qb 3 K M fun _ K=>?_;exact⟨_,Qc,i+1,rfl,(K.sub rfl),M.less (.refl _),Qc,(xc hkx hi21 Qc)⟩
    refine QK ?_;exact⟨i,(K.sub rfl),M.less (.refl _),hil,hkx,(fun z hz=>by first|(rw[List.getElem?_eq_none Qc]at hz;cases hz)|(rw[hz]at hi21;injection hi21 with e1;omega))⟩
   obtain⟨i,K,M,hil,hkx,hnx⟩:=hJ;refine Qb 2 K M fun _ K=>?_;refine p1 K (Q5 Je rfl rfl (hl.len.trans (congrArg some (Qp _)))) fun _ K=>?_;refine Qb 1 K M fun _ K=>?_;refine Ug K rfl (fun _ e32 K=>?_) fun _ e32 K=>?_
   ·refine Qb 8 K M fun _ K=>?_;refine QA (l:=[(0,0),(1,0),(2,0),(3,0),(4,0),(5,0),(6,0),(7,0),(8,0),(9,0),(10,0),(11,0),(12,0),(13,0)]) (by kernel_rfl) ?_;refine Xp rfl K M QD Xv rfl rfl rfl rfl rfl fun c41 _ _ K M=>?_;refine Jo 2 K M fun _ K=>?_;refine AR (l:=l) (a:=0) (b:=i) rfl K Qo (Jg.mem M hl Q4) hns rfl rfl rfl Qc Qc rfl fun v44 _ K r44 hc44=>?_;replace M:=Mem.cast (M':=([(c41,0,[])]++[])) (Mem.perm M (List.perm_append_comm (α:=Nat×Nat×List AV) (l₁:=[(c41,0,[])]) (l₂:=[]))) Ux;have hA0c41:Acc st.n 1 [(c41,0,[])] (.sl c41 0 0 0 1) []:=Acc.own (n0:=st.n) (z:=1) (c:=c41) (m:=0) (ls:=[]) ((M.own c41 0 [] Q4).resolve_right Q4) Q4 Q4;refine Ef (L:=[]) (A:=[(c41,0,[])]) (B:=[]) rfl K M hA0c41 QD rfl rfl r44 (EW _) (by simp[Qp];omega) rfl fun ks45 A45 _ _ K hA45 M=>?_;refine q1 rfl K (Qy rfl) fun _ K=>?_;refine Xp rfl K M QD Xv rfl rfl rfl rfl rfl fun c47 _ _ K M=>?_;refine Bx (k2:=0) (L:=[(c47,0,[iN x])]) (B:=[]) rfl K M hA45 QD rfl rfl rfl rfl (by simp[Qp];omega) rfl fun ks48 A48 _ _ K hA48 M=>?_;refine Jo 2 K M fun _ K=>?_;refine AR (l:=l) (a:=i) (b:=l.length) rfl K Qo (Jg.mem M hl Q4) hns rfl rfl rfl Qc Qc rfl fun v51 _ K r51 hc51=>?_;refine Ef (L:=[(c47,0,[iN x])]) (B:=[]) rfl K M hA48 QD rfl rfl r51 (EW _) (by simp[Qp];omega) rfl fun ks52 A52 _ _ K hA52 M=>?_;refine Jo 2 K M fun _ K=>?_;refine QF ?_;show W _ _ _ _ _ _ _;refine Qb 0 K M ?_;have hins:Xl ((x:Nat):Int) l=l.take i++((x:Nat):Int)::l.drop i:=Ck hil hkx (fun z hz=>by first|(rw[List.getElem?_eq_none Qc]at hz;cases hz)|(have h1:=hnx z hz;have e1:=Option.some.inj (hi35.symm.trans hz);omega));have e2:(l.drop i).take (l.length-i)=l.drop i:=List.take_of_length_le Q4;have h:=hA52;rw[e2,List.drop_zero,Nat.sub_zero,List.nil_append,List.append_assoc]at h;refine⟨_,_,rfl,.inl ?_,M.qt⟩;rw[hins,JW,SE];exact Mem.BS (L:=[(c47,0,[iN x])]) (B:=[]) M h
   refine Qb 2 K M fun _ K=>?_;obtain⟨y35,hi35⟩:=Uy l i Qc;obtain⟨x35,m35,f35,q35,_,la35,lo35,lp35⟩:=(Jg.mem M hl Q4).load (i:=i) (cs:=_) (Jm hi35);refine pg K rfl rfl (Qe (j:=i) Qo (congrArg some q35) rfl (by rw[Qp];omega)) fun _ K=>pg K rfl rfl (Qg rfl (lo35 _ 0 _ Qn rfl)) fun _ K=>?_;refine Qb 3 K M fun _ K=>?_;refine Jt K rfl (fun h39=>?_) fun h39=>?_
   ·refine Qb 3 K M ?_
    first
     |(exfalso;omega)
     |exact⟨_,_,rfl,.inr ⟨rfl,Fe hkx (by rw[hi35];exact congrArg some h39)⟩,M.qt⟩
   refine Qb 0 K M fun _ K=>?_;refine QA (l:=[(0,0),(1,0),(2,0),(3,0),(4,0),(5,0),(6,0),(7,0),(8,0),(9,0),(10,0),(11,0),(12,0),(13,0)]) (by kernel_rfl) ?_;refine Xp rfl K M QD Xv rfl rfl rfl rfl rfl fun c41 _ _ K M=>?_;refine Jo 2 K M fun _ K=>?_;refine AR (l:=l) (a:=0) (b:=i) rfl K Qo (Jg.mem M hl Q4) hns rfl rfl rfl Qc Qc rfl fun v44 _ K r44 hc44=>?_;replace M:=Mem.cast (M':=([(c41,0,[])]++[])) (Mem.perm M (List.perm_append_comm (α:=Nat×Nat×List AV) (l₁:=[(c41,0,[])]) (l₂:=[]))) Ux;have hA0c41:Acc st.n 1 [(c41,0,[])] (.sl c41 0 0 0 1) []:=Acc.own (n0:=st.n) (z:=1) (c:=c41) (m:=0) (ls:=[]) ((M.own c41 0 [] Q4).resolve_right Q4) Q4 Q4;refine Ef (L:=[]) (A:=[(c41,0,[])]) (B:=[]) rfl K M hA0c41 QD rfl rfl r44 (EW _) (by simp[Qp];omega) rfl fun ks45 A45 _ _ K hA45 M=>?_;refine q1 rfl K (Qy rfl) fun _ K=>?_;refine Xp rfl K M QD Xv rfl rfl rfl rfl rfl fun c47 _ _ K M=>?_;refine Bx (k2:=0) (L:=[(c47,0,[iN x])]) (B:=[]) rfl K M hA45 QD rfl rfl rfl rfl (by simp[Qp];omega) rfl fun ks48 A48 _ _ K hA48 M=>?_;refine Jo 2 K M fun _ K=>?_;refine AR (l:=l) (a:=i) (b:=l.length) rfl K Qo (Jg.mem M hl Q4) hns rfl rfl rfl Qc Qc rfl fun v51 _ K r51 hc51=>?_;refine Ef (L:=[(c47,0,[iN x])]) (B:=[]) rfl K M hA48 QD rfl rfl r51 (EW _) (by simp[Qp];omega) rfl fun ks52 A52 _ _ K hA52 M=>?_;refine Jo 2 K M fun _ K=>?_;refine QF ?_;show W _ _ _ _ _ _ _;refine Qb 0 K M ?_;have hins:Xl ((x:Nat):Int) l=l.take i++((x:Nat):Int)::l.drop i:=Ck hil hkx (fun z hz=>by first|(rw[List.getElem?_eq_none Qc]at hz;cases hz)|(have h1:=hnx z hz;have e1:=Option.some.inj (hi35.symm.trans hz);omega));have e2:(l.drop i).take (l.length-i)=l.drop i:=List.take_of_length_le Q4;have h:=hA52;rw[e2,List.drop_zero,Nat.sub_zero,List.nil_append,List.append_assoc]at h;refine⟨_,_,rfl,.inl ?_,M.qt⟩;rw[hins,JW,SE];exact Mem.BS (L:=[(c47,0,[iN x])]) (B:=[]) M h
 refine Qb 7 K M ?_
 first
  |(exfalso;omega)
  |exact⟨_,_,rfl,.inr ⟨rfl,Fe hkx (by rw[hi35];exact congrArg some h39)⟩,M.qt⟩
end
section
open Go Go.RowKit
variable {c2 k k2 m2:Nat} {e t:TypeId} {l2:List AV}

abbrev Fp:=Nat→Prop
abbrev QM:=List (Nat×Nat×List AV)
structure Ob where
 F:Fp
 H:Hp→Prop
 fr: ∀h h',(∀c,F c→h' c=h c)→H h→H h'
structure Qk(st0:St)(X0:Fp)(st:St)(M:QM)(Os:List Ob):Prop where
 fresh:Qi st
 le:st0.n≤st.n
 row: ∀c m l,(c,m,l)∈M→Qx st.h.get c m l
 nodup:(M.map Prod.fst).Nodup
 lo: ∀c m l,(c,m,l)∈M→st0.n≤c∨X0 c
 obj: ∀o∈Os,o.H st.h.get
 hi: ∀o∈Os,∀c,o.F c→c<st.n∧(st0.n≤c∨X0 c)
 dj:Os.Pairwise fun o p=> ∀c,o.F c→ ¬p.F c
 djM: ∀o∈Os,∀c m l,(c,m,l)∈M→ ¬o.F c
 J9: ∀c,c<st0.n→ ¬X0 c→st.h.get c=st0.h.get c
abbrev ZQ:Fp:=fun _=>False
def ZP(st st':St)(F:Fp):Prop:= ∀c,F c→st.n≤c∧c<st'.n
def Ee(st st':St)(F F':Fp):Prop:= ∀c,F' c→(F c∨st.n≤c)∧c<st'.n
section
variable {st0 st st' st2:St} {X0:Fp} {M M' M2 R:QM} {Os Os':List Ob} {o o':Ob}
theorem Qk.start(hf:Qi st):Qk st ZQ st [] []:=
 ⟨hf,Nat.le_refl _,fun c m l h=>(by cases h),List.nodup_nil,fun c m l h=>(by cases h),fun o h=>(by cases h),fun o h=>(by cases h),.nil,fun o h=>(by cases h),fun _ _ _=>rfl⟩
theorem Qk.UK(hf:Qi st)(h:o.H st.h.get)(hi: ∀c,o.F c→c<st.n):Qk st o.F st [] [o]:=
 ⟨hf,Nat.le_refl _,fun c m l h=>(by cases h),List.nodup_nil,fun c m l h=>(by cases h),fun p hp=>by rw[List.mem_singleton.1 hp];exact h,fun p hp c hc=>by rw[List.mem_singleton.1 hp]at hc;exact⟨hi c hc,.inr hc⟩,
  List.pairwise_singleton _ _,fun p hp c m l h=>(by cases h),fun _ _ _=>rfl⟩
theorem Qk.mem(B:Qk st0 X0 st M Os):Mem st.h.get st.n (M.map Prod.fst) st M:=Mem.Rf B.fresh M B.row B.nodup
theorem Qk.step(B:Qk st0 X0 st M Os)(hM:Mem st.h.get st.n (M.map Prod.fst) st2 M2):Qk st0 X0 st2 M2 Os:=by
 have hlo: ∀c∈M.map Prod.fst,st0.n≤c∨X0 c:=fun c hc=>by
  obtain⟨⟨c,m,l⟩,h1,rfl⟩:=List.mem_map.1 hc;exact B.lo c m l h1
 have hdj: ∀o∈Os,∀c,o.F c→c∉M.map Prod.fst:=fun o ho c hc hm=>by
  obtain⟨⟨c,m,l⟩,h1,rfl⟩:=List.mem_map.1 hm;exact B.djM o ho c m l h1 hc
 refine⟨hM.fresh,Nat.le_trans B.le hM.le,hM.row,hM.nodup,fun c m l hm=>?_,fun o ho=>?_,fun o ho c hc=>?_,B.dj,fun o ho c m l hm hc=>?_,fun c hc hx=>?_⟩
 ·rcases hM.own c m l hm with h|h
  ·exact .inl (Nat.le_trans B.le h)
  ·exact hlo c h
 ·exact o.fr _ _ (fun c hc=>hM.J9 c (B.hi o ho c hc).1 (hdj o ho c hc)) (B.obj o ho)
 ·exact⟨Nat.lt_of_lt_of_le (B.hi o ho c hc).1 hM.le,(B.hi o ho c hc).2⟩
 ·rcases hM.own c m l hm with h|h
  ·have:=(B.hi o ho c hc).1;omega
  ·exact hdj o ho c hc h
 ·rw[hM.J9 c (Nat.lt_of_lt_of_le hc B.le) fun h=>by
   rcases hlo c h with h|h
   ·omega
   ·exact hx h]
  exact B.J9 c hc hx
theorem Qk.at_(B:Qk st0 X0 st M Os)(hk:Os[k]? =some o):o.H st.h.get:=B.obj o (List.mem_of_getElem? hk)
theorem Qk.Y3(B:Qk st0 X0 st M Os)(hk:Os[k]? =some o): ∀c,o.F c→c<st.n:=fun c hc=>(B.hi o (List.mem_of_getElem? hk) c hc).1
theorem Qk.L7(B:Qk st0 X0 st M Os)(hk:Os[k]? =some o): ∀c,o.F c→st0.n≤c∨X0 c:=fun c hc=>(B.hi o (List.mem_of_getElem? hk) c hc).2
theorem Qk.uA(B:Qk st0 ZQ st M Os)(hk:Os[k]? =some o):ZP st0 st o.F:=fun c hc=>⟨(B.L7 hk c hc).resolve_right id,B.Y3 hk c hc⟩
theorem Qk.less(B:Qk st0 X0 st M Os)(hs:M'.Sublist M):Qk st0 X0 st M' Os:=
 ⟨B.fresh,B.le,fun c m l h=>B.row c m l (hs.subset h),B.nodup.sublist (hs.map _),fun c m l h=>B.lo c m l (hs.subset h),B.obj,B.hi,B.dj,fun o ho c m l h=>B.djM o ho c m l (hs.subset h),B.J9⟩
theorem Qk.perm(B:Qk st0 X0 st M Os)(p:M.Perm M'):Qk st0 X0 st M' Os:=
 ⟨B.fresh,B.le,fun c m l h=>B.row c m l (p.symm.subset h),(p.map _).nodup B.nodup,fun c m l h=>B.lo c m l (p.symm.subset h),B.obj,B.hi,B.dj,fun o ho c m l h=>B.djM o ho c m l (p.symm.subset h),B.J9⟩
theorem Qk.cast(B:Qk st0 X0 st M Os)(e:M=M'):Qk st0 X0 st M' Os:=e▸B
theorem Qk.NJ(B:Qk st0 X0 st M Os)(hs:Os'.Sublist Os):Qk st0 X0 st M Os':=
 ⟨B.fresh,B.le,B.row,B.nodup,B.lo,fun o h=>B.obj o (hs.subset h),fun o h=>B.hi o (hs.subset h),B.dj.sublist hs,fun o h=>B.djM o (hs.subset h),B.J9⟩
theorem Qk.G5(B:Qk st0 X0 st M Os)(p:Os.Perm Os'):Qk st0 X0 st M Os':=
 ⟨B.fresh,B.le,B.row,B.nodup,B.lo,fun o h=>B.obj o (p.symm.subset h),fun o h=>B.hi o (p.symm.subset h),p.pairwise B.dj (fun h c h1 h2=>h c h2 h1),fun o h=>B.djM o (p.symm.subset h),B.J9⟩
theorem Qk.quiet(B:Qk st0 X0 st M Os)(q:Qt st st'):Qk st0 X0 st' M Os:=
 B.step (B.mem.quiet q)
theorem Qk.new(B:Qk st0 X0 st M Os)(q:Qt st st')(h:o.H st'.h.get)(hn:ZP st st' o.F):Qk st0 X0 st' M (o::Os):=by
 have B':=B.quiet q;refine⟨B'.fresh,B'.le,B'.row,B'.nodup,B'.lo,fun p hp=>?_,fun p hp c hc=>?_,List.pairwise_cons.2 ⟨fun p hp c h1 h2=>?_,B.dj⟩,fun p hp c m l hm hc=>?_,B'.J9⟩
 ·rcases List.mem_cons.1 hp with rfl|hp
  ·exact h
  ·exact B'.obj p hp
 ·rcases List.mem_cons.1 hp with rfl|hp
  ·exact⟨(hn c hc).2,.inl (Nat.le_trans B.le (hn c hc).1)⟩
  ·exact B'.hi p hp c hc
 ·have:=(hn c h1).1;have:=(B.hi p hp c h2).1;omega
 ·rcases List.mem_cons.1 hp with rfl|hp
  ·have:=(hn c hc).1;have:=(B.row c m l hm).lt B.fresh;omega
  ·exact B'.djM p hp c m l hm hc
theorem Qk.call(B:Qk st0 X0 st M Os)(hk:Os[k]? =some o)(Q:UQ o.F st st')(h:o'.H st'.h.get)(hn:Ee st st' o.F o'.F):Qk st0 X0 st' M (Os.set k o'):=by
 have ho:=List.mem_of_getElem? hk;have hlt:=(List.getElem?_eq_some_iff.1 hk).1
 have hne: ∀p∈Os.set k o',p=o'∨ ∃j,Os[j]? =some p∧j≠k:=fun p hp=>by
  obtain⟨j,hj⟩:=List.getElem?_of_mem hp;rw[List.getElem?_set]at hj
  by_cases e:k=j
  ·subst e;rw[if_pos rfl,if_pos hlt]at hj
   injection hj with hj
   exact .inl hj.symm
  ·rw[if_neg e]at hj;exact .inr ⟨j,hj,fun e'=>e e'.symm⟩
 have hdj: ∀j p,Os[j]? =some p→j≠k→ ∀c,p.F c→ ¬o.F c:=fun j p hj e c h1 h2=>by
  have hjl:=(List.getElem?_eq_some_iff.1 hj).1;have hpw:=List.pairwise_iff_getElem.1 B.dj;have ej:Os[j]=p:=(List.getElem?_eq_some_iff.1 hj).2;have ek:Os[k]=o:=(List.getElem?_eq_some_iff.1 hk).2;rcases Nat.lt_or_ge j k with hlt'|hge
  ·exact hpw j k hjl hlt hlt' c (by rw[ej];exact h1) (by rw[ek];exact h2)
  ·exact hpw k j hlt hjl Qc c (by rw[ek];exact h2) (by rw[ej];exact h1)
 refine⟨Q.fresh,Nat.le_trans B.le Q.le,fun c m l hm=>?_,B.nodup,B.lo,fun p hp=>?_,fun p hp c hc=>?_,?_,fun p hp c m l hm hc=>?_,fun c hc hx=>?_⟩
 ·have h1:=B.row c m l hm;exact h1.frame (Q.J9 c (h1.lt B.fresh) (B.djM o ho c m l hm))
 ·rcases hne p hp with rfl|⟨j,hj,e⟩
  ·exact h
  ·exact p.fr _ _ (fun c hc=>Q.J9 c (B.Y3 hj c hc) (hdj j p hj e c hc)) (B.at_ hj)
 ·rcases hne p hp with rfl|⟨j,hj,e⟩
  ·obtain⟨h1,h2⟩:=hn c hc;refine⟨h2,?_⟩;rcases h1 with h1|h1
   ·exact B.L7 hk c h1
   ·exact .inl (Nat.le_trans B.le h1)
  ·exact⟨Nat.lt_of_lt_of_le (B.Y3 hj c hc) Q.le,B.L7 hj c hc⟩
 ·refine List.pairwise_iff_getElem.2 fun i j hi hj hij c h1 h2=>?_;rw[List.length_set]at hi hj;have hpw:=List.pairwise_iff_getElem.1 B.dj;rw[List.getElem_set]at h1 h2
  by_cases e1:k=i
  ·rw[if_pos e1]at h1;rw[if_neg Qc]at h2;rcases(hn c h1).1 with h3|h3
   ·exact hdj j _ (List.getElem?_eq_getElem hj) Qc c h2 h3
   ·have:=B.Y3 (List.getElem?_eq_getElem hj) c h2;omega
  ·rw[if_neg e1]at h1
   by_cases e2:k=j
   ·rw[if_pos e2]at h2;rcases(hn c h2).1 with h3|h3
    ·exact hdj i _ (List.getElem?_eq_getElem hi) Qc c h1 h3
    ·have:=B.Y3 (List.getElem?_eq_getElem hi) c h1;omega
   ·rw[if_neg e2]at h2;exact hpw i j hi hj hij c h1 h2
 ·rcases hne p hp with rfl|⟨j,hj,e⟩
  ·rcases(hn c hc).1 with h3|h3
   ·exact B.djM o ho c m l hm h3
   ·have:=(B.row c m l hm).lt B.fresh;omega
  ·exact B.djM p (List.mem_of_getElem? hj) c m l hm hc
 ·rw[Q.J9 c (Nat.lt_of_lt_of_le hc B.le) fun h'=>by
   rcases B.L7 hk c h' with h3|h3
   ·omega
   ·exact hx h3]
  exact B.J9 c hc hx
theorem Qk.view(B:Qk st0 X0 st M Os)(hk:Os[k]? =some o)(h:o'.H st.h.get)(hn: ∀c,o'.F c→o.F c):Qk st0 X0 st M (Os.set k o'):=
 B.call hk ⟨B.fresh,Nat.le_refl _,fun _ _ _=>rfl⟩ h fun c hc=>⟨.inl (hn c hc),B.Y3 hk c (hn c hc)⟩
theorem Qk.freeze(B:Qk st0 X0 st (R++M) Os)(h:o.H st.h.get)(hF: ∀c,o.F c→ ∃m l,(c,m,l)∈R):Qk st0 X0 st M (o::Os):=by
 have hnd:=B.nodup;rw[List.map_append]at hnd;refine⟨B.fresh,B.le,fun c m l h=>B.row c m l (List.mem_append_right _ h),(List.nodup_append.1 hnd).2.1,fun c m l h=>B.lo c m l (List.mem_append_right _ h),fun p hp=>?_,fun p hp c hc=>?_,List.pairwise_cons.2 ⟨fun p hp c h1 h2=>?_,B.dj⟩,fun p hp c m l hm hc=>?_,B.J9⟩
 ·rcases List.mem_cons.1 hp with rfl|hp
  ·exact h
  ·exact B.obj p hp
 ·rcases List.mem_cons.1 hp with rfl|hp
  ·obtain⟨m,l,h1⟩:=hF c hc;exact⟨(B.row c m l (List.mem_append_left _ h1)).lt B.fresh,B.lo c m l (List.mem_append_left _ h1)⟩
  ·exact B.hi p hp c hc
 ·obtain⟨m,l,h3⟩:=hF c h1;exact B.djM p hp c m l (List.mem_append_left _ h3) h2
 ·rcases List.mem_cons.1 hp with rfl|hp
  ·obtain⟨m',l',h1⟩:=hF c hc;exact(List.nodup_append.1 hnd).2.2 c (List.mem_map.2 ⟨_,h1,rfl⟩) c (List.mem_map.2 ⟨_,hm,rfl⟩) rfl
  ·exact B.djM p hp c m l (List.mem_append_right _ hm) hc
theorem Qk.join{o1 o2:Ob}(B:Qk st0 X0 st M (o1::o2::Os))(h:o1.H st.h.get→o2.H st.h.get→o.H st.h.get)(hF: ∀c,o.F c→o1.F c∨o2.F c):Qk st0 X0 st M (o::Os):=by
 have hd:=List.pairwise_cons.1 B.dj;have hd2:=List.pairwise_cons.1 hd.2;refine⟨B.fresh,B.le,B.row,B.nodup,B.lo,fun p hp=>?_,fun p hp c hc=>?_,List.pairwise_cons.2 ⟨fun p hp c h1 h2=>?_,hd2.2⟩,fun p hp c m l hm hc=>?_,B.J9⟩
 ·rcases List.mem_cons.1 hp with rfl|hp
  ·exact h (B.obj _ Q4) (B.obj _ Q4)
  ·exact B.obj p (by simp[hp])
 ·rcases List.mem_cons.1 hp with rfl|hp
  ·rcases hF c hc with h1|h1
   ·exact B.hi o1 Q4 c h1
   ·exact B.hi o2 Q4 c h1
  ·exact B.hi p (by simp[hp]) c hc
 ·rcases hF c h1 with h3|h3
  ·exact hd.1 p (by simp[hp]) c h3 h2
  ·exact hd2.1 p hp c h3 h2
 ·rcases List.mem_cons.1 hp with rfl|hp
  ·rcases hF c hc with h1|h1
   ·exact B.djM o1 Q4 c m l hm h1
   ·exact B.djM o2 Q4 c m l hm h1
  ·exact B.djM p (by simp[hp]) c m l hm hc
theorem Qk.wF(B:Qk st0 X0 st M (o::Os))(hR: ∀c m l,(c,m,l)∈R→Qx st.h.get c m l∧o.F c)(hn:(R.map Prod.fst).Nodup)(h:o'.H st.h.get)(hF: ∀c,o'.F c→o.F c)(hd: ∀c m l,(c,m,l)∈R→ ¬o'.F c):Qk st0 X0 st (R++M) (o'::Os):=by
 have hp0:=List.pairwise_cons.1 B.dj;refine⟨B.fresh,B.le,fun c m l hm=>?_,?_,fun c m l hm=>?_,fun p hp=>?_,fun p hp c hc=>?_,List.pairwise_cons.2 ⟨fun p hp c h1 h2=>hp0.1 p hp c (hF c h1) h2,hp0.2⟩,fun p hp c m l hm hc=>?_,B.J9⟩
 ·rcases List.mem_append.1 hm with hm|hm
  ·exact(hR c m l hm).1
  ·exact B.row c m l hm
 ·rw[List.map_append];refine List.nodup_append.2 ⟨hn,B.nodup,fun a ha b hb e=>?_⟩;subst e;obtain⟨⟨c,m,l⟩,h1,rfl⟩:=List.mem_map.1 ha;obtain⟨⟨c',m',l'⟩,h3,h4⟩:=List.mem_map.1 hb;simp only at h4;subst h4;exact B.djM o Q4 _ m' l' h3 (hR _ m l h1).2
 ·rcases List.mem_append.1 hm with hm|hm
  ·exact(B.hi o Q4 c (hR c m l hm).2).2
  ·exact B.lo c m l hm
 ·rcases List.mem_cons.1 hp with rfl|hp
  ·exact h
  ·exact B.obj p (by simp[hp])
 ·rcases List.mem_cons.1 hp with rfl|hp
  ·exact B.hi o Q4 c (hF c hc)
  ·exact B.hi p (by simp[hp]) c hc
 ·rcases List.mem_append.1 hm with hm|hm
  ·rcases List.mem_cons.1 hp with rfl|hp
   ·exact hd c m l hm hc
   ·exact hp0.1 p hp c (hR c m l hm).2 hc
  ·rcases List.mem_cons.1 hp with rfl|hp
   ·exact B.djM o Q4 c m l hm (hF c hc)
   ·exact B.djM p (by simp[hp]) c m l hm hc
theorem Qk.JM(B:Qk st0 X0 st M Os):UQ X0 st0 st:=⟨B.fresh,B.le,B.J9⟩
theorem Qk.qt(B:Qk st0 ZQ st M Os):Qt st0 st:=⟨B.fresh,B.le,fun c hc=>B.J9 c hc id⟩
theorem Qk.U5(B:Qk st0 X0 st M Os)(hf:Qi st0){c m:Nat}{l:List AV}(r:Yt st0.h.get c m l)(hX: ¬X0 c):Yt st.h.get c m l:=by
 have hlt:=r.lt hf;obtain⟨ro,e,vs,ms,h1,h2⟩:=r;exact⟨ro,e,vs,ms,by rw[B.J9 c hlt hX];exact h1,h2⟩
theorem Qk.rd(B:Qk st0 X0 st M Os)(hf:Qi st0){z:Nat}{ls:List (List AV)}{ks:AV}(r:Jg st0.h.get [] z ls ks)(hX: ∀c m o n y,ks=.sl c m o n y→ ¬X0 c):Jg st.h.get [] z ls ks:=
 r.frame fun c m o n y e=>by
  obtain⟨_,cells,h2,_⟩:=r.alive c m o n y e;exact B.J9 c (h2.lt hf) (hX c m o n y e)
theorem Qk.off(B:Qk st0 X0 st M Os)(hk:Os[k]? =some o)(hf:Qi st0){z:Nat}{ls:List (List AV)}{ks:AV}(r:Jg st0.h.get [] z ls ks)(hX: ∀c m o n y,ks=.sl c m o n y→ ¬X0 c): ∀c m p n y,ks=.sl c m p n y→ ¬o.F c:=fun c m p n y e hc=>by
 obtain⟨_,cells,h2,_⟩:=r.alive c m p n y e;have:=h2.lt hf;rcases B.L7 hk c hc with h|h
 ·omega
 ·exact hX c m p n y e h
theorem Qk.F5(B:Qk st0 ZQ st M Os)(hf:Qi st0){z:Nat}{ls:List (List AV)}{ks:AV}(r:Jg st0.h.get [] z ls ks):Jg st.h.get [] z ls ks:=B.rd hf r fun _ _ _ _ _ _=>id
end
section
variable {P:Program} {G:Env} {N:Nat} {T:Tr AV} {h0:Hp} {n0 z:Nat} {X:List Nat} {st st':St} {L A B:QM} {ks:AV} {ls:List (List AV)} {ops rest:List Oper} {K:List (Nat×AV)} {R:Tr AV→St→Prop} {d:Nat} {ty:TypeId} {pos:String} {af:Array Edge}
theorem Acc.z0{n0:Nat}(hA:Acc n0 z A ks ls):Acc 0 z A ks ls:=hA.less (Nat.zero_le _)
theorem Mem.wu(hM:Mem h0 n0 X st (L++(A++B)))(hA:Acc 0 z A ks ls)(T:FU P t e z)(hk:(L++(A++B))[k2]? =some (c2,m2,l2))(hl:l2.length=z)(hb:ls.length+1≤1000000000):
  ∃ks' A' st1,Yj P [t,t] ks (.sl c2 m2 0 1 z) st=some (ks',st1)∧Acc 0 z A' ks' (ls++[l2])∧Mem h0 n0 X st1 (L++(A'++B)):=by
 cases hA with
 |none=>
  obtain⟨ks',A',st1,h1,h2,h3⟩:=hM.YE (A:=[]) .none T hk hl hb;exact⟨ks',A',st1,h1,h2.less (Nat.zero_le _),h3⟩
 |own h3 h4 h5=>
  rename_i c m;obtain⟨m',st1,h6,h7,_⟩:=hM.append T (z2:=z) (J2:=0) (n:=1) (Cl L B _) (AD h4) (hM.Ya hk).Jb Qc Q8 hb;refine⟨_,[(c,m',(ls++[l2]).flatten)],st1,h6,?_,?_⟩
  ·have:=Acc.own (n0:=0) (c:=c) (m:=m') (ls:=ls++[l2]) (z:=z) (Nat.zero_le _) (fun cs hc=>by
    rcases List.mem_append.1 hc with hc|hc
    ·exact h4 cs hc
    ·rw[List.mem_singleton.1 hc];exact hl) (by simpa using hb)
   rw[List.length_append]at this;exact this
  ·rw[BE,List.drop_zero,List.take_of_length_le Qc]at h7;rw[List.flatten_append,show [l2].flatten=l2 by simp];exact h7
theorem QZ{x y:Operand}(hK:QS K T)(hM:Mem h0 n0 X st (L++(A++B)))(hA:Acc 0 z A ks ls)(S:FU P t e z)(hx:QT G K x=some ks)(hy:QT G K y=some (.sl c2 m2 0 1 z))(hk:(L++(A++B))[k2]? =some (c2,m2,l2))(hl:l2.length=z)(hb:ls.length+1≤1000000000)(hN:Nat.ble (d+1) N=true)
  (hn: ∀(ks':AV) A' T' st',QS ((d,ks')::K) T'→Acc 0 z A' ks' (ls++[l2])→Mem h0 n0 X st' (L++(A'++B))→WR P G N ops rest R T' st'):WR P G N ops (⟨some d,.call {callee:=.builtin .append,args:= #[x,y],argTypes:= #[t,t]},ty,pos,af,none⟩::rest) R T st:=by
 obtain⟨ks',A',st1,h1,h2,h3⟩:=hM.wu hA S hk hl hb;exact EF hK (ZL rfl hx hy h1) (Nat.le_of_ble_eq_true hN) fun T' hT'=>hn ks' A' T' st1 hT' h2 h3
theorem ZT{sn:List St}{i:Nat}{rr:List (Nat×Nat)}{x y:Operand}(ho:ops[i]? =some ⟨some d,.call {callee:=.builtin .append,args:= #[x,y],argTypes:= #[t,t]},ty,pos,af,none⟩)(hK:QS K T)(hM:Mem h0 n0 X st (L++(A++B)))(hA:Acc 0 z A ks ls)(S:FU P t e z)(hx:QT G K x=some ks)(hy:QT G K y=some (.sl c2 m2 0 1 z))(hk:(L++(A++B))[k2]? =some (c2,m2,l2))(hl:l2.length=z)(hb:ls.length+1≤1000000000)(hN:Nat.ble (d+1) N=true)
  (hn: ∀(ks':AV) A' T' st',QS ((d,ks')::K) T'→Acc 0 z A' ks' (ls++[l2])→Mem h0 n0 X st' (L++(A'++B))→WD P G N ops (rr.map (Yo ops)) R T' st' (st'::sn)):WD P G N ops (((i,0)::rr).map (Yo ops)) R T st sn:=by
 obtain⟨ks',A',st1,h1,h2,h3⟩:=hM.wu hA S hk hl hb;exact LM ho hK (ZL rfl hx hy h1) rfl (Nat.le_of_ble_eq_true hN) fun T' hT'=>hn ks' A' T' st1 hT' h2 h3
end
end
section
open Go Go.RowKit

structure VR(P:Program)(t:TypeId){α:Type}(key:α→AV)(z:AV):Prop where
 rule: ∃kt et d,P.underlying t=some (.map kt et)∧P.underlying kt=some d∧zeroV P et=some z∧(∀a,Wq P kt d (key a)=true)∧(∀a i,Yz P kt d (key a) [] i=some none)∧
  ∀a b v n es i,(a=b→Yz P kt d (key a) ((key b,v,n)::es) i=some (some (i,v)))∧(a≠b→Yz P kt d (key a) ((key b,v,n)::es) i=Yz P kt d (key a) es (i+1))
section
variable {α:Type} {key:α→AV}
def O9(key:α→AV)(es:List (AV×AV×Nat))(L:List (α×AV)):Prop:=es.map wM=L.map fun x=>(key x.1,x.2)
open Classical in
noncomputable def Yp:List (α×AV)→α→Option AV
 |[],_=>none
 |x::L,a=>if x.1=a then some x.2 else Yp L a
theorem L8: ∀{L:List (α×AV)} {a:α} {v:AV},Yp L a=some v→(a,v)∈L
 |[],a,v,h=>by cases h
 |x::L,a,v,h=>by
  rw[Yp]at h
  split at h
  ·rename_i e
   injection h with h
   subst e h;simp
  ·exact List.mem_cons_of_mem _ (L8 h)
theorem NG: ∀{L:List (α×AV)} {a:α},Yp L a=none→ ∀v,(a,v)∉L
 |[],a,_,v=>by simp
 |x::L,a,h,v=>by
  rw[Yp]at h
  split at h
  ·cases h
  ·rename_i e;intro hm;rcases List.mem_cons.1 hm with e'|hm
   ·exact e (by rw[←e'])
   ·exact NG h v hm
theorem O9.snoc{es:List (AV×AV×Nat)}{L:List (α×AV)}(h:O9 key es L)(a:α)(v:AV)(n:Nat):O9 key (es++[(key a,v,n)]) (L++[(a,v)]):=by
 unfold O9 at h ⊢;rw[List.map_append,List.map_append,h];rfl
theorem VR.find{P:Program}{t:TypeId}{z:AV}{kt et:TypeId}{d:TypeDesc}(h0: ∀a i,Yz P kt d (key a) [] i=some none)(h1: ∀a b v n es i,(a=b→Yz P kt d (key a) ((key b,v,n)::es) i=some (some (i,v)))∧(a≠b→Yz P kt d (key a) ((key b,v,n)::es) i=Yz P kt d (key a) es (i+1)))(a:α): ∀(L:List (α×AV)) (es:List (AV×AV×Nat)) (i:Nat),O9 key es L→
  (Yp L a=none→Yz P kt d (key a) es i=some none)∧ ∀v,Yp L a=some v→ ∃j,Yz P kt d (key a) es i=some (some (j,v))
 |[],es,i,h=>by
  cases es with
  |nil=>exact⟨fun _=>h0 a i,fun v hv=>(by cases hv)⟩
  |cons e es=>cases h
 |x::L,es,i,h=>by
  cases es with
  |nil=>cases h
  |cons e es=>
   obtain⟨e1,e2,e3⟩:=e;unfold O9 at h;rw[List.map_cons,List.map_cons]at h
   injection h with h h'
   injection h with h3 h4
   have h3:e1=key x.1:=h3;have h4:e2=x.2:=h4;subst h3 h4;obtain⟨k1,k2⟩:=h1 a x.1 x.2 e3 es i;rw[Yp]
   split
   ·rename_i e;exact⟨fun h=>(by cases h),fun v hv=>(by injection hv with hv;subst hv;exact⟨i,k1 e.symm⟩)⟩
   ·rename_i e;rw[k2 fun h=>e h.symm];exact VR.find (t:=t) (z:=z) (et:=et) h0 h1 a L es (i+1) h'
def Wp(cm:Nat)(key:α→AV)(L:List (α×AV)):Ob:=⟨fun c=>c=cm,fun h=> ∃es n,h cm=some (.map es n)∧O9 key es L,fun h h' e ⟨es,n,h1,h2⟩=>⟨es,n,by rw[e cm rfl];exact h1,h2⟩⟩
theorem WI{P:Program}{G:Env}{K:List (Nat×AV)}{st:St}{t:TypeId}{z:AV}(T:VR P t key z){cm:Nat}{L:List (α×AV)}{a:α}{m k:Operand}(hH:(Wp cm key L).H st.h.get)(hm:QT G K m=some (.mp cm))(hk:QT G K k=some (key a)):
  U2 P G K (.lookup t m k true) st (.tup [(Yp L a).getD z,.bool (Yp L a).isSome]) st:=.of fun T' hT c d ty pos af g=>by
 obtain⟨kt,et,d',u1,u2,u3,u4,u5,u6⟩:=T.rule;obtain⟨es,n,hc,he⟩:=hH;show(ob (Jq G T' m) fun m=>ob (Jq G T' k) fun k=>ret (Vr P t m k true st.h.get) st)=_;rw[hT.Jq hm,hT.Jq hk,Ql,Ql];unfold Vr;obtain⟨f1,f2⟩:=VR.find (P:=P) (t:=t) (z:=z) (et:=et) u5 u6 a L es 0 he;simp only[u1,u2,u4,QO,hc,Ql]
 cases hl:Yp L a with
 |none=>rw[f1 hl];simp only[Ql,u3,Option.getD_none,Option.isSome_none];rfl
 |some v=>
  obtain⟨j,f⟩:=f2 v hl;rw[f];rfl
noncomputable def A4(st:St)(cm n:Nat)(es:List (AV×AV×Nat))(k v:AV):St:=⟨st.n,st.h.set cm (.map (es++[(k,v,n)]) (n+1))⟩
theorem Tc{P:Program}{G:Env}{K:List (Nat×AV)}{st:St}{t:TypeId}{z:AV}(T:VR P t key z){cm n:Nat}{es:List (AV×AV×Nat)}{L:List (α×AV)}{a:α}{v:AV}{m k x:Operand}(hc:st.h.get cm=some (.map es n))(he:O9 key es L)(hm:QT G K m=some (.mp cm))(hk:QT G K k=some (key a))(hx:QT G K x=some v)(hv:Qr v=true)(hn:Yp L a=none):
  U2 P G K (.mapUpdate t m k x) st (.tup []) (A4 st cm n es (key a) v):=.of fun T' hT c d ty pos af g=>by
 obtain⟨kt,et,d',u1,u2,u3,u4,u5,u6⟩:=T.rule;show(ob (Jq G T' m) fun m=>ob (Jq G T' k) fun k=>ob (Jq G T' x) fun x=>Z1 P t m k x st)=_;rw[hT.Jq hm,hT.Jq hk,hT.Jq hx,Ql,Ql,Ql];unfold Z1 A4;obtain⟨f1,f2⟩:=VR.find (P:=P) (t:=t) (z:=z) (et:=et) u5 u6 a L es 0 he;simp only[u1,u2,u4,QO,hc,Ql,f1 hn,hv,Bool.true_or,Ua,U4,Jh,UI]
section
variable {P:Program} {G:Env} {N:Nat} {st0 st:St} {X0:Fp} {M:QM} {Os:List Ob} {T:Tr AV} {ops rest:List Oper} {K:List (Nat×AV)} {R:Tr AV→St→Prop} {t ty:TypeId} {pos:String} {af:Array Edge} {z v:AV} {cm j:Nat} {L:List (α×AV)} {a:α} {m k x:Operand} {sn:List St} {i:Nat} {r:List (Nat×Nat)}
theorem Qk.BX(B:Qk st0 X0 st M Os)(hj:Os[j]? =some (Wp cm key L)){es:List (AV×AV×Nat)}{n:Nat}(hc:st.h.get cm=some (.map es n))(he:O9 key es L)(a:α)(v:AV):Qk st0 X0 (A4 st cm n es (key a) v) M (Os.set j (Wp cm key (L++[(a,v)]))):=by
 have hg: ∀c,(A4 st cm n es (key a) v).h.get c=if c=cm then some (.map (es++[(key a,v,n)]) (n+1))else st.h.get c:=fun c=>Tr.VZ _ _ _ _
 have hcm:cm<st.n:=B.Y3 hj cm rfl;refine B.call hj ⟨fun c hc=>?_,Nat.le_refl _,fun c hc hF=>?_⟩ ⟨_,_,(hg cm).trans (if_pos rfl),he.snoc a v n⟩ fun c hc=>⟨.inl hc,?_⟩
 ·have hc:st.n≤c:=hc;rw[hg,if_neg Qc];exact B.fresh c hc
 ·have hF: ¬c=cm:=hF;rw[hg,if_neg hF]
 ·have hc:c=cm:=hc;rw[hc];exact hcm
theorem H8(hK:QS K T)(B:Qk st0 X0 st M Os)(hj:Os[j]? =some (Wp cm key L))(Tk:VR P t key z)(hm:QT G K m=some (.mp cm))(hk:QT G K k=some (key a))(hx:QT G K x=some v)(hv:Qr v=true)(hn:Yp L a=none)
  (hr: ∀st',Qk st0 X0 st' M (Os.set j (Wp cm key (L++[(a,v)])))→WR P G N ops rest R T st'):WR P G N ops (⟨none,.mapUpdate t m k x,ty,pos,af,none⟩::rest) R T st:=by
 obtain⟨es,n,hc,he⟩:=B.at_ hj;exact SF hK (Tc Tk hc he hm hk hx hv hn) (hr _ (B.BX hj hc he a v))
theorem zQ(ho:ops[i]? =some ⟨none,.mapUpdate t m k x,ty,pos,af,none⟩)(hK:QS K T)(B:Qk st0 X0 st M Os)(hj:Os[j]? =some (Wp cm key L))(Tk:VR P t key z)(hm:QT G K m=some (.mp cm))(hk:QT G K k=some (key a))(hx:QT G K x=some v)(hv:Qr v=true)(hn:Yp L a=none)
  (hr: ∀st',Qk st0 X0 st' M (Os.set j (Wp cm key (L++[(a,v)])))→WD P G N ops (r.map (Yo ops)) R T st' (st'::sn)):WD P G N ops (((i,0)::r).map (Yo ops)) R T st sn:=by
 obtain⟨es,n,hc,he⟩:=B.at_ hj;rw[YY ho];exact Vm rfl (Tc Tk hc he hm hk hx hv hn T hK _ _ _ _ _) rfl (fun e he=>by cases he) (hr _ (B.BX hj hc he a v))
theorem jW:U2 P G K (.makeMap t none) st (.mp st.n) ⟨st.n+1,st.h.set st.n (.map [] 0)⟩:=.of fun T hT c d ty pos af g=>by
 show WQ st=_;unfold WQ;rw[WL]
theorem Qk.eO(B:Qk st0 X0 st M Os)(key:α→AV):Qk st0 X0 ⟨st.n+1,st.h.set st.n (.map [] 0)⟩ M (Wp st.n key []::Os):=by
 have hg: ∀c,(st.h.set st.n (.map [] 0)).get c=if c=st.n then some (.map [] 0)else st.h.get c:=fun c=>Tr.VZ _ _ _ _
 refine B.new ⟨fun c hc=>?_,Nat.le_succ _,fun c hc=>?_⟩ ⟨[],0,(hg st.n).trans (if_pos rfl),rfl⟩ fun c hc=>?_
 ·have hc:st.n+1≤c:=hc;show(st.h.set st.n _).get c=none;rw[hg,if_neg Qc];exact B.fresh c Qc
 ·show(st.h.set st.n _).get c=_;rw[hg,if_neg Qc]
 ·have hc:c=st.n:=hc;subst hc;exact⟨Nat.le_refl _,Nat.lt_succ_self _⟩
theorem W4{d:Nat}(key:α→AV)(hK:QS K T)(B:Qk st0 X0 st M Os)(hN:Nat.ble (d+1) N=true)(hr: ∀(c:Nat) T' st',QS ((d,.mp c)::K) T'→Qk st0 X0 st' M (Wp c key []::Os)→WR P G N ops rest R T' st'):WR P G N ops (⟨some d,.makeMap t none,ty,pos,af,none⟩::rest) R T st:=
 EF hK jW (Nat.le_of_ble_eq_true hN) fun T' hT'=>hr _ T' _ hT' (B.eO key)
end
end
theorem zX:Tryz.prog.underlying 141=some (.map 3 3):=by kernel_rfl
theorem zW:Tryz.prog.underlying 172=some (.map 177 3):=by kernel_rfl
abbrev Lb(x:Int):AV:=.int .i64 x
theorem Ie:VR Tryz.prog 141 Lb (.int .i64 0):=⟨3,3,.int .i64,zX,Uz,by kernel_rfl,fun a=>rfl,fun a i=>rfl,fun a b v n es i=>by
 have e:Yz Tryz.prog 3 (.int .i64) (Lb a) ((Lb b,v,n)::es) i=Qj (Hk a b) (some (some (i,v))) (Yz Tryz.prog 3 (.int .i64) (Lb a) es (i+1)):=by
  refine(VD (.int .i64) (Lb a) (Lb b,v,n) es i).trans ?_;show ob (QJ (Gj .i64 .i64) (some (Hk a b))) _=_;rw[WV,QO,Ql];rfl
 rw[e,Yw]
 exact⟨fun h=>by rw[decide_eq_true h];rfl,fun h=>by rw[decide_eq_false h];rfl⟩⟩
abbrev KA(x:Int×Int):AV:=.agg [.int .i64 x.1,.int .i64 x.2]
theorem uR:VR Tryz.prog 172 KA (.int .i64 0):=⟨177,3,.array 2 3,zW,AT,by kernel_rfl,fun a=>by
 obtain⟨a1,a2⟩:=a;show aL (Y0 Tryz.prog 177 [.int .i64 a1,.int .i64 a2] [.int .i64 a1,.int .i64 a2])=true
 rw[GY,Yw,Yw,decide_eq_true rfl,decide_eq_true rfl];rfl,fun a i=>rfl,fun a b v n es i=>by
 have e:Yz Tryz.prog 177 (.array 2 3) (KA a) ((KA b,v,n)::es) i=ob (PF Tryz.prog 177 (KA a) (KA b)) fun q=>Qj q (some (some (i,v))) (Yz Tryz.prog 177 (.array 2 3) (KA a) es (i+1)):=by
  exact E4 _ _ _ _ _ _ _
 have e2:PF Tryz.prog 177 (KA a) (KA b)=some (decide (a=b)):=by
  obtain⟨a1,a2⟩:=a;obtain⟨b1,b2⟩:=b;show WW (Y0 Tryz.prog 177 [.int .i64 a1,.int .i64 a2] [.int .i64 b1,.int .i64 b2]) [.int .i64 a1,.int .i64 a2] [.int .i64 b1,.int .i64 b2]=_;rw[GY,Yw,Yw]
  by_cases h1:a1=b1<;>by_cases h2:a2=b2<;>simp[h1,h2,Q0,Qs,WW,Gl,O0,WV,Yw,QO]
 rw[e,e2,Ql]
 exact⟨fun h=>by rw[decide_eq_true h];rfl,fun h=>by rw[decide_eq_false h];rfl⟩⟩
end
section
variable {T h i l t:Nat}

inductive Bn where
 |leaf (v:Int)
 |fork (t l h:Nat)
abbrev U7:=List Bn
def PX(S:U7):Nat→Nat→Nat→Int
 |0,_,_=> -1
 |k+1,i,c=>match S[i]? with
  |some (.leaf v)=>v
  |some (.fork t l h)=>PX S k (if c.testBit t then h else l) c
  |none=> -1
def Y4(S:U7)(i c:Nat):Int:=PX S (i+1) i c
def lvl(T:Nat)(S:U7)(i:Nat):Nat:=match S[i]? with
 |some (.fork t _ _)=>t
 |_=>T
structure Xn(T:Nat)(S:U7):Prop where
 nodup:S.Nodup
 fork: ∀(i t l h:Nat),S[i]? =some (.fork t l h)→t<lvl T S l∧t<lvl T S h∧l<i∧h<i∧l≠h∧t<T
 leaf: ∀(i:Nat) (v:Int),S[i]? =some (.leaf v)→0≤v∧v≤1099511627776
theorem Xn.nil(T:Nat):Xn T []:=⟨List.nodup_nil,fun i t l h e=>by simp at e,fun i v e=>by simp at e⟩
theorem Pf{S:U7}(W:Xn T S)(c:Nat): ∀i k k',i<k→i<k'→PX S k i c=PX S k' i c:=by
 intro i
 induction i using Nat.strongRecOn with
 |_ i ih=>
  intro k k' h1 h2;obtain⟨k,rfl⟩: ∃x,k=x+1:=⟨k-1,by omega⟩;obtain⟨k',rfl⟩: ∃x,k'=x+1:=⟨k'-1,by omega⟩;unfold PX
  cases hs:S[i]? with
  |none=>rfl
  |some n=>
   cases n with
   |leaf v=>rfl
   |fork t l h=>
    obtain⟨_,_,e1,e2,_⟩:=W.fork _ _ _ _ hs;show PX S k (if c.testBit t then h else l) c=PX S k' (if c.testBit t then h else l) c
    split
    ·exact ih h e2 _ _ Qc Qc
    ·exact ih l e1 _ _ Qc Qc
theorem Wd{S:U7}{v:Int}(h:S[i]? =some (.leaf v))(c:Nat):Y4 S i c=v:=by
 unfold Y4 PX;rw[h]
theorem We{S:U7}(W:Xn T S)(e:S[i]? =some (.fork t l h))(c:Nat):Y4 S i c=if c.testBit t then Y4 S h c else Y4 S l c:=by
 obtain⟨_,_,e1,e2,_⟩:=W.fork _ _ _ _ e;unfold Y4;rw[PX,e];show PX S i (if c.testBit t then h else l) c=_
 split
 ·exact Pf W c _ _ _ Qc Qc
 ·exact Pf W c _ _ _ Qc Qc
theorem Ia{S:U7}(X:U7)(hi:i<S.length):lvl T (S++X) i=lvl T S i:=by
 unfold lvl;rw[List.getElem?_append_left hi]
theorem eU{S:U7}(W:Xn T S)(X:U7)(hi:i<S.length)(c:Nat):Y4 (S++X) i c=Y4 S i c:=by
 have key: ∀k i,i<S.length→PX (S++X) k i c=PX S k i c:=by
  intro k
  induction k with
  |zero=>intro i _;rfl
  |succ k ih=>
   intro i hi;unfold PX;rw[List.getElem?_append_left hi]
   cases hs:S[i]? with
   |none=>rfl
   |some n=>
    cases n with
    |leaf v=>rfl
    |fork t l h=>
     obtain⟨_,_,e1,e2,_⟩:=W.fork _ _ _ _ hs;show PX (S++X) k (if c.testBit t then h else l) c=PX S k (if c.testBit t then h else l) c
     exact ih _ (by split<;>omega)
 exact key _ _ hi
theorem Zs{S S':U7}(W:Xn T S)(h:S<+:S')(hi:i<S.length)(c:Nat):Y4 S' i c=Y4 S i c:=by
 obtain⟨X,rfl⟩:=h;exact eU W X hi c
theorem Vq{S S':U7}(h:S<+:S')(hi:i<S.length):lvl T S' i=lvl T S i:=by
 obtain⟨X,rfl⟩:=h;exact Ia X hi
theorem Cc{S:U7}(W:Xn T S)(i:Nat):lvl T S i≤T:=by
 unfold lvl
 split
 ·rename_i t l h e;have:=W.fork _ _ _ _ e;omega
 ·exact Nat.le_refl _
theorem NZ{S:U7}(W:Xn T S){c c':Nat}: ∀i,(∀t,lvl T S i≤t→t<T→c.testBit t=c'.testBit t)→Y4 S i c=Y4 S i c':=by
 intro i
 induction i using Nat.strongRecOn with
 |_ i ih=>
  intro hc
  cases hs:S[i]? with
  |none=>unfold Y4 PX;rw[hs]
  |some n=>
   cases n with
   |leaf v=>rw[Wd hs,Wd hs]
   |fork t l h=>
    obtain⟨e1,e2,e3,e4,_,e6⟩:=W.fork _ _ _ _ hs
    have hl:lvl T S i=t:=by unfold lvl;rw[hs]
    rw[We W hs,We W hs,hc t Qc e6]
    split
    ·exact ih h e4 fun s h1 h2=>hc s Qc h2
    ·exact ih l e3 fun s h1 h2=>hc s Qc h2
theorem RZ{S:U7}(W:Xn T S)(i c:Nat):Y4 S i (c % 2^T)=Y4 S i c:=
 NZ W i fun t _ ht=>by rw[Nat.testBit_mod_two_pow,decide_eq_true ht,Bool.true_and]
def aM(t c:Nat):Nat:=if c.testBit t then c^^^2^t else c
def aI(t c:Nat):Nat:=if c.testBit t then c else c^^^2^t
theorem ai(t c:Nat):(aM t c).testBit t=false:=by
 unfold aM
 split
 ·rename_i h;rw[Nat.testBit_xor,h,Nat.testBit_two_pow_self];rfl
 ·rename_i h;simpa using h
theorem wJ(t c:Nat):(aI t c).testBit t=true:=by
 unfold aI
 split
 ·assumption
 ·rename_i h;rw[Nat.testBit_xor,Nat.testBit_two_pow_self];simp[h]
theorem ah{s:Nat}(h:s≠t)(c:Nat):(aM t c).testBit s=c.testBit s:=by
 unfold aM
 split
 ·rw[Nat.testBit_xor,Nat.testBit_two_pow_of_ne (Ne.symm h)];simp
 ·rfl
theorem wI{s:Nat}(h:s≠t)(c:Nat):(aI t c).testBit s=c.testBit s:=by
 unfold aI
 split
 ·rfl
 ·rw[Nat.testBit_xor,Nat.testBit_two_pow_of_ne (Ne.symm h)];simp
theorem yv{S:U7}(W:Xn T S)(h:t<lvl T S i)(c:Nat):Y4 S i (aM t c)=Y4 S i c:=NZ W i fun s h1 _=>ah Qc c
theorem yu{S:U7}(W:Xn T S)(h:t<lvl T S i)(c:Nat):Y4 S i (aI t c)=Y4 S i c:=NZ W i fun s h1 _=>wI Qc c
theorem Im{S:U7}(W:Xn T S)(e:S[i]? =some (.fork t l h))(c:Nat):Y4 S i (aM t c)=Y4 S l c:=by
 obtain⟨e1,e2,_⟩:=W.fork _ _ _ _ e;rw[We W e,ai,if_neg Q8,yv W e1]
theorem Fh{S:U7}(W:Xn T S)(e:S[i]? =some (.fork t l h))(c:Nat):Y4 S i (aI t c)=Y4 S h c:=by
 obtain⟨e1,e2,_⟩:=W.fork _ _ _ _ e;rw[We W e,wJ,if_pos rfl,yu W e2]
theorem yw{S:U7}(W:Xn T S): ∀n i j,i+j≤n→i<S.length→j<S.length→(∀c,Y4 S i c=Y4 S j c)→i=j:=by
 intro n
 induction n with
 |zero=>intro i j h _ _ _;omega
 |succ n ih=>
  intro i j hn hi hj hc;obtain⟨x,hx⟩: ∃x,S[i]? =some x:=⟨_,List.getElem?_eq_getElem hi⟩;obtain⟨y,hy⟩: ∃y,S[j]? =some y:=⟨_,List.getElem?_eq_getElem hj⟩;have same:x=y→i=j:=fun e=>(List.getElem?_inj hi W.nodup).1 (by rw[hx,hy,e])

  have off: ∀i j t l h,i+j≤n+1→i<S.length→j<S.length→S[i]? =some (.fork t l h)→t<lvl T S j→(∀c,Y4 S i c=Y4 S j c)→False:=by
   intro i j t l h hn hi hj e ht hc;obtain⟨e1,e2,e3,e4,e5,_⟩:=W.fork _ _ _ _ e
   have h1:l=j:=ih l j Qc Qc hj fun c=>by rw[←Im W e,hc,yv W ht]
   have h2:h=j:=ih h j Qc Qc hj fun c=>by rw[←Fh W e,hc,yu W ht]
   exact e5 (h1.trans h2.symm)
  have lv: ∀{i t l h},S[i]? =some (.fork t l h)→lvl T S i=t:=fun e=>by unfold lvl;rw[e]
  have lf: ∀{i v},S[i]? =some (.leaf v)→lvl T S i=T:=fun e=>by unfold lvl;rw[e]
  cases x with
  |leaf v=>
   cases y with
   |leaf w=>exact same (by rw[←Wd hx 0,hc,Wd hy])
   |fork t l h=>exact(off j i t l h Qc hj hi hy (by rw[lf hx];exact(W.fork _ _ _ _ hy).2.2.2.2.2) fun c=>(hc c).symm).elim
  |fork t l h=>
   cases y with
   |leaf w=>exact(off i j t l h hn hi hj hx (by rw[lf hy];exact(W.fork _ _ _ _ hx).2.2.2.2.2) hc).elim
   |fork t' l' h'=>
    rcases Nat.lt_trichotomy t t' with ht|ht|ht
    ·exact(off i j t l h hn hi hj hx (by rw[lv hy];exact ht) hc).elim
    ·subst ht;obtain⟨_,_,a3,a4,_⟩:=W.fork _ _ _ _ hx;obtain⟨_,_,b3,b4,_⟩:=W.fork _ _ _ _ hy
     have h1:l=l':=ih l l' Qc Qc Qc fun c=>by rw[←Im W hx,hc,Im W hy]
     have h2:h=h':=ih h h' Qc Qc Qc fun c=>by rw[←Fh W hx,hc,Fh W hy]
     exact same (by rw[h1,h2])
    ·exact(off j i t' l' h' Qc hj hi hy (by rw[lv hx];exact ht) fun c=>(hc c).symm).elim
theorem eT{S:U7}(W:Xn T S){j:Nat}(hi:i<S.length)(hj:j<S.length)(hc: ∀c,c<2^T→Y4 S i c=Y4 S j c):i=j:=
 yw W _ i j (Nat.le_refl _) hi hj fun c=>by rw[←RZ W,←RZ W j,hc _ (Nat.mod_lt _ (Nat.two_pow_pos T))]
def CD(S:U7)(n:Bn)(i:Nat)(S':U7):Prop:=(S[i]? =some n∧S'=S)∨(n∉S∧i=S.length∧S'=S++[n])
theorem CD.pre{S S':U7}{n:Bn}(h:CD S n i S'):S<+:S'∧S'[i]? =some n∧S'.length≤S.length+1:=by
 rcases h with⟨h,rfl⟩|⟨_,rfl,rfl⟩
 ·exact⟨List.prefix_refl _,h,Nat.le_succ _⟩
 ·exact⟨List.prefix_append _ _,by simp,by simp⟩
theorem CD.wf{S S':U7}{n:Bn}(h:CD S n i S')(W:Xn T S)(hl: ∀v,n=.leaf v→0≤v∧v≤1099511627776)(hf: ∀t l h,n=.fork t l h→t<lvl T S l∧t<lvl T S h∧l<S.length∧h<S.length∧l≠h∧t<T):Xn T S':=by
 rcases h with⟨_,rfl⟩|⟨h0,rfl,rfl⟩
 ·exact W
 ·refine⟨List.nodup_append.2 ⟨W.nodup,by simp,fun a ha b hb e=>?_⟩,fun i t l h e=>?_,fun i v e=>?_⟩
  ·rw[List.mem_singleton]at hb;subst hb e;exact h0 ha
  ·by_cases hi:i<S.length
   ·rw[List.getElem?_append_left hi]at e;obtain⟨e1,e2,e3,e4,e5,e6⟩:=W.fork _ _ _ _ e;rw[Ia _ Qc,Ia _ Qc];exact⟨e1,e2,e3,e4,e5,e6⟩
   ·have hlt:=(List.getElem?_eq_some_iff.1 e).1;rw[List.length_append,List.length_singleton]at hlt
    have hi:i=S.length:=by omega
    subst hi;rw[List.getElem?_append_right (Nat.le_refl _),Nat.sub_self]at e
    injection e with e
    obtain⟨e1,e2,e3,e4,e5,e6⟩:=hf _ _ _ e;rw[Ia _ e3,Ia _ e4];exact⟨e1,e2,e3,e4,e5,e6⟩
  ·by_cases hi:i<S.length
   ·rw[List.getElem?_append_left hi]at e;exact W.leaf _ _ e
   ·have hlt:=(List.getElem?_eq_some_iff.1 e).1;rw[List.length_append,List.length_singleton]at hlt
    have hi:i=S.length:=by omega
    subst hi;rw[List.getElem?_append_right (Nat.le_refl _),Nat.sub_self]at e
    injection e with e
    exact hl _ e
structure Wh(T:Nat)(S:U7)(k:Nat)(S':U7)(i:Nat):Prop where
 wf:Xn T S'
 pre:S<+:S'
 lt:i<S'.length
 len:S'.length≤S.length+k
theorem ve{S S':U7}{v:Int}(h:CD S (.leaf v) i S')(W:Xn T S)(hv:0≤v∧v≤1099511627776):Wh T S 1 S' i∧lvl T S' i=T∧ ∀c,Y4 S' i c=v:=by
 obtain⟨h1,h2,h3⟩:=h.pre;refine⟨⟨h.wf W (fun w e=>by injection e with e;subst e;exact hv) (fun _ _ _ e=>by cases e),h1,(List.getElem?_eq_some_iff.1 h2).1,h3⟩,?_,fun c=>Wd h2 c⟩;unfold lvl;rw[h2]
def ki(S:U7)(t l h i:Nat)(S':U7):Prop:=(l=h∧i=l∧S'=S)∨(l≠h∧CD S (.fork t l h) i S')
theorem wa{S S':U7}(H:ki S t l h i S')(W:Xn T S)(ht:t<T)(hl:l<S.length)(hh:h<S.length)(h1:t<lvl T S l)(h2:t<lvl T S h):
  Wh T S 1 S' i∧t≤lvl T S' i∧ ∀c,Y4 S' i c=if c.testBit t then Y4 S h c else Y4 S l c:=by
 rcases H with⟨rfl,rfl,rfl⟩|⟨hne,H⟩
 ·exact⟨⟨W,List.prefix_refl _,hl,Nat.le_succ _⟩,by omega,fun c=>by split<;>rfl⟩
 ·obtain⟨k1,k2,k3⟩:=H.pre;have W':=H.wf W (fun _ e=>by cases e) (fun _ _ _ e=>by injection e with e1 e2 e3;subst e1 e2 e3;exact⟨h1,h2,hl,hh,hne,ht⟩);refine⟨⟨W',k1,(List.getElem?_eq_some_iff.1 k2).1,k3⟩,?_,fun c=>?_⟩
  ·unfold lvl;rw[k2];exact Nat.le_refl _
  ·rw[We W' k2,Zs W k1 hl,Zs W k1 hh]
def WE(T:Nat)(S:U7)(i:Nat):List Int:=(List.range (2^T)).map fun c=>Y4 S i c
theorem Ni(T:Nat)(S:U7)(i:Nat):(WE T S i).length=2^T:=by simp[WE]
theorem Nj{c:Nat}(S:U7)(i:Nat)(h:c<2^T):(WE T S i)[c]? =some (Y4 S i c):=by
 unfold WE;rw[List.getElem?_map,List.getElem?_range h];rfl
theorem xx{S:U7}{row:List Int}(hl:row.length=2^T)(h: ∀c,c<2^T→row[c]? =some (Y4 S i c)):WE T S i=row:=by
 apply List.ext_getElem?;intro c
 by_cases hc:c<2^T
 ·rw[Nj S i hc,h c hc]
 ·rw[List.getElem?_eq_none (by rw[Ni];omega),List.getElem?_eq_none Qc]
end
end Go.Proofs.YtiknomepbklibaaGreatDoor
