/-
  Closed by a track, plainly.
-/
import Derived.Test.YtiknomepbklibaaGreatDoorQrCl
set_option linter.unnecessarySimpa false
set_option linter.unusedSectionVars false
set_option linter.unusedSimpArgs false
set_option linter.unusedVariables false
section
namespace Go.Proofs.YtiknomepbklibaaGreatDoor
variable {a:Au} {k s:Nat} {l:List Bool}

inductive wQ(a:Au)(k:Nat):Nat→Prop
 |acc {s:Nat} (h:a.ok s=true):wQ a k s
 |low {s:Nat} (h:wQ a k (a.go s 0)):wQ a k s
 |high {s:Nat} (h:wQ a k (a.go s (2^k))):wQ a k s
def IE(l:List Bool)(s:Nat):Bool:=(l[s]?).getD false
structure A4(a:Au)(k:Nat)(l:List Bool):Prop where
 len:l.length=a.n
 iff: ∀s,s<a.n→(IE l s=true↔wQ a k s)
theorem A4.uniq{l':List Bool}(h:A4 a k l)(h':A4 a k l'):l=l':=by
 apply List.ext_getElem?;intro s
 by_cases hs:s<a.n
 ·have e:IE l s=IE l' s:=by
   rw[Bool.eq_iff_iff,h.iff s hs,h'.iff s hs]
  unfold IE at e;rw[List.getElem?_eq_getElem (by rw[h.len];exact hs),List.getElem?_eq_getElem (by rw[h'.len];exact hs)]at e ⊢;exact congrArg some e
 ·rw[List.getElem?_eq_none (by rw[h.len];omega),List.getElem?_eq_none (by rw[h'.len];omega)]
theorem JJ{c:Nat}{r:List Int}{z:Int}(h1:a.nx[s]? =some r)(h2:r[c]? =some z):a.go s c=z.toNat:=by
 unfold Au.go;rw[h1,Option.getD_some,h2,Option.getD_some]
def Xv(l:List Bool):Nat:=l.countP fun b=> !b
theorem N4: ∀{l:List Bool} {j:Nat},l[j]? =some false→Xv (l.set j true)+1=Xv l
 |[],j,h=>by simp at h
 |b::l,0,h=>by
  injection h with h
  subst h;rw[List.set_cons_zero,Xv,Xv,List.countP_cons,List.countP_cons];simp
 |b::l,j+1,h=>by
  have:=N4 (l:=l) (j:=j) h;rw[List.set_cons_succ,Xv,Xv,List.countP_cons,List.countP_cons];rw[Xv,Xv]at this;omega
theorem Tq{j:Nat}{b:Bool}(hj:j<l.length):IE (l.set j b) s=if s=j then b else IE l s:=by
 unfold IE;rw[List.getElem?_set]
 by_cases h:j=s
 ·subst h;rw[if_pos rfl,if_pos hj,if_pos rfl];rfl
 ·rw[if_neg h,if_neg fun e=>h e.symm]
theorem Yk{b:Bool}(h:l[s]? =some b):IE l s=b:=by unfold IE;rw[h];rfl
structure IN(a:Au)(k:Nat)(l:List Bool):Prop where
 len:l.length=a.n
 sound: ∀s,s<a.n→IE l s=true→wQ a k s
 ext: ∀s,s<a.n→a.ok s=true→IE l s=true
theorem IN.start(a:Au)(k:Nat):IN a k a.acc:=⟨rfl,fun s _ h=>.acc h,fun s _ h=>h⟩
theorem IN.set{a:Au}{k s:Nat}{l:List Bool}(h:IN a k l)(hs:s<a.n)(h0:a.go s 0<a.n)(h1:a.go s (2^k)<a.n)(hb:IE l (a.go s 0)=true∨IE l (a.go s (2^k))=true):IN a k (l.set s true):=by
 have hl:s<l.length:=by rw[h.len];exact hs
 refine⟨by rw[List.length_set];exact h.len,fun t ht e=>?_,fun t ht e=>?_⟩
 ·rw[Tq hl]at e
  by_cases hts:t=s
  ·subst hts;rcases hb with hb|hb
   ·exact .low (h.sound _ h0 hb)
   ·exact .high (h.sound _ h1 hb)
  ·rw[if_neg hts]at e;exact h.sound t ht e
 ·rw[Tq hl]
  split
  ·rfl
  ·exact h.ext t ht e
def NY(a:Au)(k:Nat)(l:List Bool)(s:Nat):Prop:=IE l (a.go s 0)=true∨IE l (a.go s (2^k))=true→IE l s=true
theorem IN.done(h:IN a k l)(W:Zt a)(hk:2^k<a.K)(hc: ∀s,s<a.n→NY a k l s):A4 a k l:=by
 refine⟨h.len,fun s hs=>⟨h.sound s hs,fun hp=>?_⟩⟩;have hK:0<a.K:=Nat.two_pow_pos _
 induction hp with
 |acc e=>exact h.ext _ hs e
 |low _ ih=>exact hc _ hs (.inl (ih (W.UQ hs hK)))
 |high _ ih=>exact hc _ hs (.inr (ih (W.UQ hs hk)))
structure Cu(a:Au)(k:Nat)(l0 l:List Bool)(more:Bool)(s:Nat):Prop where
 inv:IN a k l
 le:Xv l≤Xv l0
 yes:more=true→Xv l<Xv l0
 no:more=false→l=l0∧ ∀t,t<s→NY a k l t
theorem Cu.start(h:IN a k l):Cu a k l l false 0:=⟨h,Nat.le_refl _,fun e=>(by cases e),fun _=>⟨rfl,fun t ht=>absurd ht (Nat.not_lt_zero t)⟩⟩
theorem Cu.keep{l0:List Bool}{more:Bool}(h:Cu a k l0 l more s)(hc:NY a k l s):Cu a k l0 l more (s+1):=
 ⟨h.inv,h.le,h.yes,fun e=>⟨(h.no e).1,fun t ht=>by
  rcases Nat.lt_succ_iff_lt_or_eq.1 ht with h1|rfl
  ·exact(h.no e).2 t h1
  ·exact hc⟩⟩
theorem Cu.set{a:Au}{k s:Nat}{l0 l:List Bool}{more:Bool}(h:Cu a k l0 l more s)(hs:s<a.n)(h0:a.go s 0<a.n)(h1:a.go s (2^k)<a.n)(hf:l[s]? =some false)(hb:IE l (a.go s 0)=true∨IE l (a.go s (2^k))=true):Cu a k l0 (l.set s true) true (s+1):=by
 have:=N4 hf;have:=h.le;exact⟨h.inv.set hs h0 h1 hb,by omega,fun _=>by omega,fun e=>(by cases e)⟩
def HW(l:List Bool)(more:Bool):Nat:=2 *Xv l+(if more then 1 else 0)
theorem Cu.eE{l0:List Bool}{more:Bool}(h:Cu a k l0 l more s):HW l more<HW l0 true:=by
 unfold HW;rw[if_pos rfl]
 cases more with
 |true=>have:=h.yes rfl;rw[if_pos rfl];omega
 |false=>have:=h.le;rw[if_neg QE];omega
end Go.Proofs.YtiknomepbklibaaGreatDoor
end
section
namespace Go.Proofs.YtiknomepbklibaaGreatDoor
open Go Go.RowKit

theorem Bj(n:Nat):((2^n:Nat):Int)=(2:Int)^n:=by rw[Int.natCast_pow];rfl
theorem Db{n:Nat}(h:n≤62):2^n≤4611686018427387904:=Nat.le_trans (Nat.pow_le_pow_right QE h) QE
theorem Y5{P:Program}{G:Env}{K:List (Nat×AV)}{st:St}{t yt:TypeId}{x y:Operand}{k:IntKind}{n:Nat}(hx:Jb G K x=some (.int .i64 1))(hy:Jb G K y=some (.int k ((n:Nat):Int)))(h:n≤62):U4 P G K (.binOp .shl t x y yt) st (.int .i64 (2^n:Nat)) st:=
 UO hx hy (by
  have hp:((2^n:Nat):Int)≤4611686018427387904:=Int.ofNat_le.2 (Db h);have hp0:(0:Int)≤((2^n:Nat):Int):=Int.natCast_nonneg _;show Qo (BF ((n:Nat):Int) 0) none (XN (XW .i64 (1 *2^(min ((n:Nat):Int).toNat 64))) fun z=>some (AV.int .i64 z))=_
  rw[Zc,decide_eq_false Qe,Yr,UH,Int.toNat_natCast,Nat.min_eq_left Qe,Int.one_mul,←Bj,wrap64 (Int.le_trans QE hp0) (Int.le_trans hp QE)];rfl)
end Go.Proofs.YtiknomepbklibaaGreatDoor
end
section
namespace Go.Proofs.YtiknomepbklibaaGreatDoor
open Go Go.RowKit
variable {a b:Nat}

section
variable {P:Program} {G:Env} {K:List (Nat×AV)} {st:St} {t yt:TypeId} {x y:Operand}
theorem IF(ha:a≤9223372036854775807):(BitVec.ofInt 64 ((a:Nat):Int)).toNat=a:=by
 rw[BitVec.ofInt_natCast,BitVec.toNat_ofNat];exact Nat.mod_eq_of_lt Qe
theorem Bu(hx:Jb G K x=some (.int .i64 (a:Nat)))(hy:Jb G K y=some (.int .i64 (b:Nat)))(ha:a≤9223372036854775807)(hb:b≤9223372036854775807):U4 P G K (.binOp .and t x y yt) st (.int .i64 (a&&&b:Nat)) st:=
 UO hx hy (by
  rw[XT QE QE];show XN (IntKind.i64.wrap (((BitVec.ofInt 64 ((a:Nat):Int)&&&BitVec.ofInt 64 ((b:Nat):Int)).toNat:Nat):Int)) (fun z=>some (AV.int .i64 z))=_;have h:a&&&b≤a:=Nat.and_le_left
  rw[BitVec.toNat_and,IF ha,IF hb,Yr,wrap64 Qe Qe])
theorem X5(hx:Jb G K x=some (.int .i64 (a:Nat)))(hy:Jb G K y=some (.int .i64 1))(ha:a≤9223372036854775807):U4 P G K (.binOp .and t x y yt) st (.int .i64 (a % 2:Nat)) st:=by
 have:=Bu (P:=P) (st:=st) (t:=t) (yt:=yt) (b:=1) hx hy ha QE;rw[Nat.and_one_is_mod]at this;exact this
theorem zF(ha:a≤9223372036854775807)(hb:b≤9223372036854775807):a|||b≤9223372036854775807:=by
 have:=Nat.or_lt_two_pow (n:=63) (show a<2^63 by omega) (show b<2^63 by omega);omega
theorem jm(hx:Jb G K x=some (.int .i64 (a:Nat)))(hy:Jb G K y=some (.int .i64 (b:Nat)))(ha:a≤9223372036854775807)(hb:b≤9223372036854775807):U4 P G K (.binOp .or t x y yt) st (.int .i64 (a|||b:Nat)) st:=
 UO hx hy (by
  rw[XT QE QE];show XN (IntKind.i64.wrap (((BitVec.ofInt 64 ((a:Nat):Int)|||BitVec.ofInt 64 ((b:Nat):Int)).toNat:Nat):Int)) (fun z=>some (AV.int .i64 z))=_;have h:=zF ha hb
  rw[BitVec.toNat_or,IF ha,IF hb,Yr,wrap64 Qe Qe])
theorem X3{k:IntKind}{n:Nat}(hx:Jb G K x=some (.int .i64 (a:Nat)))(hy:Jb G K y=some (.int k ((n:Nat):Int)))(hn:n≤62):U4 P G K (.binOp .shr t x y yt) st (.int .i64 (a/2^n:Nat)) st:=
 UO hx hy (by
  show Qo (BF ((n:Nat):Int) 0) none (XN (((a:Nat):Int).fdiv (2^(min ((n:Nat):Int).toNat 64))) fun z=>some (AV.int .i64 z))=_
  rw[Zc,decide_eq_false Qe,Yr,Int.toNat_natCast,Nat.min_eq_left Qe,←Bj,←Int.ofNat_fdiv];rfl)
theorem SC{k:IntKind}{n:Nat}(hx:Jb G K x=some (.int .i64 (a:Nat)))(hy:Jb G K y=some (.int k ((n:Nat):Int)))(hn:n≤62)(hb:a *2^n≤9223372036854775807):U4 P G K (.binOp .shl t x y yt) st (.int .i64 (a *2^n:Nat)) st:=
 UO hx hy (by
  show Qo (BF ((n:Nat):Int) 0) none (XN (XW .i64 (((a:Nat):Int) *2^(min ((n:Nat):Int).toNat 64))) fun z=>some (AV.int .i64 z))=_
  rw[Zc,decide_eq_false Qe,Yr,UH,Int.toNat_natCast,Nat.min_eq_left Qe,←Bj,←Int.natCast_mul,wrap64 Qe Qe];rfl)
theorem jn{a b:Bool}(ht:P.underlying t=some .bool)(hx:Jb G K x=some (.bool a))(hy:Jb G K y=some (.bool b)):U4 P G K (.binOp .neq t x y yt) st (.bool (!(a==b))) st:=
 UO hx hy (by
  show QN (Ek (P.underlying t) (.bool a)) (ob (Ey (.bool a) (.bool b)) fun b=>some (AV.bool !b))=_;rw[ht]
  cases a<;>cases b<;>rfl)
theorem Ts(c t:Nat):(((c/2^t % 2:Nat):Int)=1)↔c.testBit t=true:=by
 rw[Nat.testBit_eq_decide_div_mod_eq,decide_eq_true_eq];omega
end
end Go.Proofs.YtiknomepbklibaaGreatDoor
end
section
namespace Go.Proofs.YtiknomepbklibaaGreatDoor
open Go Go.RowKit
variable {a:Au} {c k n u:Nat} {q:List Int}

def Zv(k c u:Nat):Nat:=c % 2^k+u *2^k+c/2^k *2^(k+1)
theorem Iw(k c:Nat):c % 2^k<2^k:=Nat.mod_lt _ (Nat.two_pow_pos k)
theorem Dl{a q:Nat}(h:a<2^k):a|||q *2^k=a+q *2^k:=by
 have:=Nat.two_pow_add_eq_or_of_lt h q;rw[Nat.or_comm,Nat.mul_comm q,←this,Nat.add_comm]
theorem Ss(k c:Nat):c % 2^k|||c/2^k *2^(k+1)=Zv k c 0:=by
 have h1:=Iw k c;have h2:2^k≤2^(k+1):=Nat.pow_le_pow_right QE Qe;rw[Dl Qe,Zv,Nat.zero_mul,Nat.add_zero (c % 2^k)]
theorem zq(k c:Nat):Zv k c 0|||2^k=Zv k c 1:=by
 have h1:=Iw k c
 have h2:2^(k+1)=2 *2^k:=by rw[Nat.pow_succ,Nat.mul_comm]
 have e:=Dl (k:=k) (q:=1) h1;rw[Nat.one_mul]at e;rw[←Ss,Nat.or_assoc,Nat.or_comm (c/2^k *2^(k+1)),←Nat.or_assoc,e,Dl Qe,Zv,Nat.one_mul]
theorem Bf(hu:u≤1):c % 2^k|||u *2^k=c % 2^k+u *2^k:=Dl (Iw k c)
theorem qU(hu:u≤1):(c % 2^k|||u *2^k)|||c/2^k *2^(k+1)=Zv k c u:=by
 have h1:=Iw k c
 have h2:2^(k+1)=2 *2^k:=by rw[Nat.pow_succ,Nat.mul_comm]
 have h3:u *2^k≤1 *2^k:=Nat.mul_le_mul_right _ hu;rw[Bf hu,Dl Qe,Zv]
theorem LJ{T:Nat}(hk:k<T)(hc:c<2^(T-1))(hu:u≤1):Zv k c u<2^T:=by
 have h1:=Iw k c;have h3:u *2^k≤1 *2^k:=Nat.mul_le_mul_right _ hu
 have h4:c/2^k<2^(T-1-k):=by
  rw[Nat.div_lt_iff_lt_mul (Nat.two_pow_pos k),←Nat.pow_add,show T-1-k+k=T-1 by omega];exact hc
 have h5:(c/2^k+1) *2^(k+1)≤2^(T-1-k) *2^(k+1):=Nat.mul_le_mul_right _ h4;rw[←Nat.pow_add,show T-1-k+(k+1)=T by omega,Nat.succ_mul]at h5
 have h2:2^(k+1)=2 *2^k:=by rw[Nat.pow_succ,Nat.mul_comm]
 unfold Zv;omega
section
variable {P:Program} {G:Env} {K:List (Nat×AV)} {st:St} {t yt:TypeId} {x y:Operand}
theorem SF(hx:Jb G K x=some (.int .i64 (c:Nat)))(hy:Jb G K y=some (.int .i64 (((2^k:Nat):Int)-1)))(hc:c≤9223372036854775807)(hk:k≤62):U4 P G K (.binOp .and t x y yt) st (.int .i64 (c % 2^k:Nat)) st:=by
 have hp:2^k≤2^62:=Nat.pow_le_pow_right QE hk;have h0:=Nat.two_pow_pos k;have:=Bu (P:=P) (st:=st) (t:=t) (yt:=yt) (a:=c) (b:=2^k-1) hx (by rw[hy];congr 2;omega) hc Qe
 rwa [Nat.and_two_pow_sub_one_eq_mod]at this
theorem jt{kk:IntKind}(hx:Jb G K x=some (.int .i64 (((c:Nat):Int)-((c % 2^k:Nat):Int))))(hy:Jb G K y=some (.int kk 1))(hc:c *2≤9223372036854775807):U4 P G K (.binOp .shl t x y yt) st (.int .i64 (c/2^k *2^(k+1):Nat)) st:=by
 have h1:=Nat.div_add_mod c (2^k)
 have h2:c/2^k *2^(k+1)=(2^k *(c/2^k)) *2^1:=by rw[Nat.pow_succ,Nat.pow_one,←Nat.mul_assoc,Nat.mul_comm (c/2^k)]
 rw[h2];exact SC (n:=1) (by rw[hx];congr 2;omega) hy QE Qe
end
def W4(a:Au)(k c:Nat)(q:List Int):List Int:=q.flatMap fun z=>[((a.go z.toNat (Zv k c 0):Nat):Int),((a.go z.toNat (Zv k c 1):Nat):Int)]
theorem Iv(a:Au)(k c:Nat)(q:List Int):(W4 a k c q).length=2 *q.length:=by
 induction q with
 |nil=>rfl
 |cons z q ih=>unfold W4 at ih ⊢;rw[List.flatMap_cons,List.length_append,ih,List.length_cons];simp;omega
theorem Nb{i:Nat}{z:Int}(h:q[i]? =some z):W4 a k c (q.take (i+1))=W4 a k c (q.take i)++[((a.go z.toNat (Zv k c 0):Nat):Int),((a.go z.toNat (Zv k c 1):Nat):Int)]:=by
 unfold W4;rw[List.take_add_one,h,List.flatMap_append];rfl
theorem Mo{x:Int}:x∈W4 a k c q↔ ∃z∈q,∃u,u≤1∧x=((a.go z.toNat (Zv k c u):Nat):Int):=by
 unfold W4;rw[List.mem_flatMap];constructor
 ·rintro⟨z,hz,h⟩
  simp only[List.mem_cons,List.not_mem_nil,or_false]at h;rcases h with h|h
  ·exact⟨z,hz,0,by decide,h⟩
  ·exact⟨z,hz,1,by decide,h⟩
 ·rintro⟨z,hz,u,hu,h⟩
  refine⟨z,hz,?_⟩
  have:u=0∨u=1:=by omega
  rcases this with rfl|rfl<;>simp[h]
def Up(a:Au)(k:Nat)(q:List Int)(c:Nat):List Int:=JT (W4 a k c q)
def AX(n:Nat)(q:List Int):Prop:=VS q∧ ∀z∈q,0≤z∧z<((n:Nat):Int)
theorem TF(h:VS q):JT q=q:=CX (Vd q) h fun x=>VM q x
theorem CW: ∀{q:List Int} {lo hi:Int},VS q→(∀z∈q,lo≤z∧z<hi)→lo≤hi→(q.length:Int)≤hi-lo
 |[],lo,hi,_,_,h=>by simp;omega
 |x::q,lo,hi,h,hb,hl=>by
  obtain⟨h1,h2⟩:=List.pairwise_cons.1 h;have hx:=hb x QA;have:=CW (lo:=x+1) (hi:=hi) h2 (fun z hz=>⟨by have:=h1 z hz;omega,(hb z (by simp[hz])).2⟩) Qe;rw[List.length_cons];omega
theorem AX.len(h:AX n q):q.length≤n:=by
 have:=CW h.1 h.2 Qe;omega
theorem AX.AU(h:AX n q)(hn:n≤400):Vm q:=fun z hz=>by
 have:=h.2 z hz
 constructor<;>omega
theorem AX.zero(h:1≤n):AX n [0]:=⟨List.pairwise_singleton _ _,fun z hz=>by rw[List.mem_singleton.1 hz];omega⟩
theorem AX.step(W:Zt a)(hk:k<a.tr)(hc:c<2^(a.tr-1))(h:AX a.n q):AX a.n (Up a k q c):=by
 refine⟨Vd _,fun z hz=>?_⟩;obtain⟨y,hy,u,hu,rfl⟩:=Mo.1 ((VM _ z).1 hz);have:=h.2 y hy;have:=W.UQ (s:=y.toNat) (c:=Zv k c u) Qe (LJ hk hc hu);omega
def anyS(acc:List Bool)(s:List Int):Bool:=s.any fun z=>IE acc z.toNat
theorem Gf{L:List (List Int)}(h:VS q):(Rh L q<L.length∧AT L q=L∧L[Rh L q]? =some q)∨(Rh L q=L.length∧AT L q=L++[q]∧q∉L):=by
 unfold Rh AT;rw[TF h]
 cases hn:XQ 0 L q with
 |some i=>
  have h1:=(Gh hn).2;rw[Nat.sub_zero]at h1;exact .inl ⟨(List.getElem?_eq_some_iff.1 h1).1,rfl,h1⟩
 |none=>exact .inr ⟨rfl,rfl,It hn⟩
structure Vr{α:Type}(δ:α→Nat→α)(s0:α)(K:Nat)(L:List α)(rows:List (List Int))(row:List Int):Prop where
 ex: ∃es,Hb δ s0 K L es∧rows.flatten++row=es.map fun v=>((v:Nat):Int)
 len: ∀r∈rows,r.length=K
 less:row.length≤K
section
variable {α:Type} {δ:α→Nat→α} {s0:α} {K:Nat} {L:List α} {rows:List (List Int)} {row:List Int}
theorem Vr.start(δ:α→Nat→α)(s0:α)(K:Nat):Vr δ s0 K [s0] [] []:=⟨⟨[],Hb.start δ s0 K,rfl⟩,fun r h=>(by cases h),Nat.zero_le _⟩
theorem Vr.at_(H:Vr δ s0 K L rows row)(hr:row.length<K){es:List Nat}(e:rows.flatten++row=es.map fun v=>((v:Nat):Int)):es.length/K=rows.length∧es.length % K=row.length:=by
 have h1:=congrArg List.length e;rw[List.length_append,I5 H.len,List.length_map]at h1;rw[←h1,Nat.mul_comm];exact⟨by rw[Nat.mul_add_div Qe,Nat.div_eq_of_lt hr];rfl,by rw[Nat.mul_add_mod];exact Nat.mod_eq_of_lt hr⟩
theorem Vr.J8(H:Vr δ s0 K L rows row)(hr:row.length<K){s:α}(hs:L[rows.length]? =some s){j:Nat}(hj:L[j]? =some (δ s row.length)):Vr δ s0 K L rows (row++[((j:Nat):Int)]):=by
 obtain⟨es,E,e⟩:=H.ex;obtain⟨h1,h2⟩:=H.at_ hr e;exact⟨⟨es++[j],E.J8 (by rw[h1];exact hs) (by rw[h2];exact hj),by rw[←List.append_assoc,e,List.map_append];rfl⟩,H.len,by rw[List.length_append];simp;omega⟩
theorem Vr.new(H:Vr δ s0 K L rows row)(hr:row.length<K){s:α}(hs:L[rows.length]? =some s)(hn:δ s row.length∉L):Vr δ s0 K (L++[δ s row.length]) rows (row++[((L.length:Nat):Int)]):=by
 obtain⟨es,E,e⟩:=H.ex;obtain⟨h1,h2⟩:=H.at_ hr e;have:=E.new (by rw[h1];exact hs) (by rw[h2];exact hn);rw[h2]at this;exact⟨⟨es++[L.length],this,by rw[←List.append_assoc,e,List.map_append];rfl⟩,H.len,by rw[List.length_append];simp;omega⟩
theorem Vr.whole(H:Vr δ s0 K L rows row)(hr:row.length=K):Vr δ s0 K L (rows++[row]) []:=by
 obtain⟨es,E,e⟩:=H.ex;refine⟨⟨es,E,by simpa using e⟩,fun r h=>?_,Nat.zero_le _⟩;rcases List.mem_append.1 h with h|h
 ·exact H.len r h
 ·rw[List.mem_singleton.1 h];exact hr
theorem Vr.made{p:α→Bool}{m:Au}(H:Vr δ s0 m.K L m.nx [])(hl:m.nx.length=L.length)(ha:m.acc=L.map p)(ht:m.tr≤6)(hm:L.length≤400):Uw δ s0 p L m:=by
 obtain⟨es,E,e⟩:=H.ex;rw[List.append_nil]at e;exact⟨⟨es,E,⟨H.len,e⟩⟩,hl,ha,ht,hm⟩
theorem Vr.nodup(H:Vr δ s0 K L rows row):L.Nodup:=by obtain⟨es,E,e⟩:=H.ex;exact E.nodup
theorem Vr.bound(H:Vr δ s0 K L rows row): ∀z∈rows.flatten++row,0≤z∧z<((L.length:Nat):Int):=by
 obtain⟨es,E,e⟩:=H.ex;intro z hz;rw[e]at hz;obtain⟨v,hv,rfl⟩:=List.mem_map.1 hz;obtain⟨i,hi⟩:=List.getElem?_of_mem hv;have:=E.lt hi;omega
theorem Vr.all(H:Vr δ s0 K L rows row){Q:α→Prop}(h0:Q s0)(hs: ∀s c,Q s→c<K→Q (δ s c))(hK:0<K){s:α}(h:s∈L):Q s:=by
 obtain⟨es,E,e⟩:=H.ex;obtain⟨i,hi⟩:=List.getElem?_of_mem h;exact E.all h0 (fun s c hq hc=>hs s c hq (hc hK)) i s hi
end
theorem Vr.id{K:Nat}{L:List (List Int)}{rows:List (List Int)}{row:List Int}(H:Vr (Up a k) [0] K L rows row)(hr:row.length<K)(hs:L[rows.length]? =some q):Vr (Up a k) [0] K (AT L (Up a k q row.length)) rows (row++[((Rh L (Up a k q row.length):Nat):Int)]):=by
 rcases Gf (L:=L) (q:=Up a k q row.length) (Vd _)with⟨h1,h2,h3⟩|⟨h1,h2,h3⟩
 ·rw[h2];exact H.J8 hr hs h3
 ·rw[h1,h2];exact H.new hr hs h3
end Go.Proofs.YtiknomepbklibaaGreatDoor
end
section
namespace Go.Proofs.YtiknomepbklibaaGreatDoor
open Go Go.RowKit

def aK(w:List Nat)(i:Nat):Nat:=(w[i]?).getD 0
def Tk(k c:Nat):Prop:=c=0∨c=2^k
end Go.Proofs.YtiknomepbklibaaGreatDoor
end
section
namespace Go.Proofs.YtiknomepbklibaaGreatDoor
open Go Go.RowKit

def Oe(a b:Au)(p:Nat×Nat)(c:Nat):Nat×Nat:=(a.go p.1 c,b.go p.2 c)
def Lw(t:Nat)(x y:Bool):Bool:=t/2^((if x then 2 else 0)+(if y then 1 else 0)) % 2==1
def Ib(a b:Au)(t:Nat)(p:Nat×Nat):Bool:=Lw t (a.ok p.1) (b.ok p.2)
theorem xO(a b:Au): ∀(w:List Nat) (p:Nat×Nat),w.foldl (Oe a b) p=(a.run p.1 w,b.run p.2 w)
 |[],p=>rfl
 |c::w,p=>by rw[List.foldl_cons,xO a b w];rfl
abbrev E5(a b:Au)(t:Nat)(l:List (Nat×Nat))(m:Au):Prop:=Uw (Oe a b) (0,0) (Ib a b t) l m∧m.tr=a.tr
theorem E5.My{a b m:Au}{t:Nat}{l:List (Nat×Nat)}(H:E5 a b t l m){w:List Nat}(hw:OO a.K w):m.ok (m.run 0 w)=Lw t (a.ok (a.run 0 w)) (b.ok (b.run 0 w)):=by
 rw[H.1.My (by unfold Au.K at hw ⊢;rw[H.2];exact hw),xO];rfl
section
variable {a b m:Au} {t k:Nat} {l:List (Nat×Nat)} {w:List Nat}
end
end Go.Proofs.YtiknomepbklibaaGreatDoor
end
section
namespace Go.Proofs.YtiknomepbklibaaGreatDoor
open Go Go.RowKit

def eC:AV→Bool
 |.sl _ _ _ _ _=>false
 |_=>true
theorem LB{ks:AV}{n:Nat}(h:YB ks=some n):Qu ks=true:=by
 cases ks<;>first|rfl|cases h
abbrev WM:=Nat→Nat→List AV→Prop
abbrev y7:=List (Nat×Nat×List AV)
def YH(R:WM)(h:Hp):Prop:= ∀c m l,R c m l→Yp h c m l
def LM(R:WM)(A:y7):WM:=fun c m l=>R c m l∨(c,m,l)∈A
theorem WX{R:WM}{A:y7}{c m:Nat}{l:List AV}(h:R c m l):LM R A c m l:=.inl h
theorem Mem.YH{h0:Hp}{n0:Nat}{st:St}{M:y7}(h:Mem h0 n0 [] st M){R:WM}(hR:Proofs.YtiknomepbklibaaGreatDoor.YH R h0):Proofs.YtiknomepbklibaaGreatDoor.YH R st.h.get:=fun c m l hr=>h.JK QA (hR c m l hr)
end Go.Proofs.YtiknomepbklibaaGreatDoor
end
section
namespace Go.Proofs.YtiknomepbklibaaGreatDoor
open Go Go.RowKit
variable {cs:List AV} {i:Nat}

inductive Cr where
 |mk (op:List Nat) (a b c n:Int) (kids:List Cr)
def Cr.op:Cr→List Nat
 |.mk o _ _ _ _ _=>o
def Cr.kids:Cr→List Cr
 |.mk _ _ _ _ _ l=>l
inductive Y9(R:WM):Cr→List AV→Prop
 |leaf {o:List Nat} {a b c n:Int} {ks:AV} (hs:YB ks=some 0) (ha:eC ks=true):Y9 R (.mk o a b c n []) [.str o,.int .i64 a,.int .i64 b,.int .i64 c,.int .i64 n,ks]
 |node {o:List Nat} {a b c n:Int} {kids:List Cr} {x m off:Nat} {cells:List AV} (hr:R x m cells) (hn:(kids.length:Int)≤9223372036854775807) (hl:off+kids.length *6≤cells.length)
  (hk: ∀(i:Nat) (k:Cr),kids[i]? =some k→Y9 R k ((cells.drop (off+i *6)).take 6)):Y9 R (.mk o a b c n kids) [.str o,.int .i64 a,.int .i64 b,.int .i64 c,.int .i64 n,.sl x m off kids.length 6]
theorem Y9.mono{R R':WM}(hl: ∀c m l,R c m l→R' c m l){t:Cr}(r:Y9 R t cs):Y9 R' t cs:=by
 induction r with
 |leaf hs ha=>exact .leaf hs ha
 |node hr hn hl' hk ih=>exact .node (hl _ _ _ hr) hn hl' ih
inductive Zh(R:WM):List Cr→AV→List (List AV)→Prop
 |none {kk:AV} (hs:YB kk=some 0) (ha:eC kk=true):Zh R [] kk []
 |row {kids:List Cr} {ls:List (List AV)} {c m off:Nat} {cells:List AV} (hr:R c m cells) (hn:(kids.length:Int)≤9223372036854775807) (hl:off+kids.length *6≤cells.length) (hls:ls.length=kids.length)
  (hcs: ∀(i:Nat) (cs:List AV),ls[i]? =some cs→cs=(cells.drop (off+i *6)).take 6) (hk: ∀(i:Nat) (k:Cr) (cs:List AV),kids[i]? =some k→ls[i]? =some cs→Y9 R k cs):Zh R kids (.sl c m off kids.length 6) ls
section
variable {R:WM} {kids:List Cr} {kk:AV} {ls:List (List AV)}
theorem Zh.ln(K:Zh R kids kk ls):ls.length=kids.length:=by
 cases K with
 |none=>rfl
 |row _ _ _ h=>exact h
theorem Zh.len(K:Zh R kids kk ls):YB kk=some kids.length:=by
 cases K with
 |none hs ha=>exact hs
 |row=>rfl
theorem Zh.cell(K:Zh R kids kk ls):Qu kk=true:=LB K.len
theorem Zh.E0(K:Zh R kids kk ls):(kids.length:Int)≤9223372036854775807:=by
 cases K with
 |none=>simp
 |row _ h=>exact h
theorem Zh.get(K:Zh R kids kk ls){k:Cr}(hi:kids[i]? =some k): ∃cs,ls[i]? =some cs∧Y9 R k cs:=by
 have hlt:i<ls.length:=by rw[K.ln];exact(List.getElem?_eq_some_iff.1 hi).1
 refine⟨_,List.getElem?_eq_getElem hlt,?_⟩
 cases K with
 |none=>simp at hi
 |row _ _ _ _ _ hk=>exact hk i k _ hi (List.getElem?_eq_getElem hlt)
theorem Zh.r(K:Zh R kids kk ls){h:Hp}(hi:YH R h):Jk h [] 6 ls kk:=by
 cases K with
 |none hs ha=>exact⟨hs,by simp,LB hs,fun i cs hi=>by simp at hi,fun c m off n z e=>by subst e;cases ha⟩
 |row hr hn hl hls hcs hk=>
  rename_i c m off cells;refine⟨by rw[hls];rfl,by rw[hls];exact hn,rfl,fun i cs he=>?_,fun c' m' off' n' z e=>?_⟩
  ·have hlt:=(List.getElem?_eq_some_iff.1 he).1;have:=hcs i cs he;refine⟨c,m,off,cells,by rw[hls],by simp,hi _ _ _ hr,?_,this.symm⟩;rw[this,List.length_take,List.length_drop];omega
  ·injection e with e1 e2 e3 e4 e5
   subst e1 e2 e3 e4 e5;exact⟨by simp,cells,hi _ _ _ hr,hl⟩
end
theorem Y9.we{R:WM}{k:Cr}(r:Y9 R k cs):cs.length=6:=by cases r<;>rfl
theorem Y9.Ym{R:WM}{o:List Nat}{a b c n:Int}{kids:List Cr}(r:Y9 R (.mk o a b c n kids) cs):
  ∃kk ls,cs=[.str o,.int .i64 a,.int .i64 b,.int .i64 c,.int .i64 n,kk]∧Zh R kids kk ls:=by
 cases r with
 |leaf hs ha=>exact⟨_,[],rfl,.none hs ha⟩
 |node hr hn hl hk=>
  rename_i x m off cells
  have hlen:((List.range kids.length).map fun i=>(cells.drop (off+i *6)).take 6).length=kids.length:=by simp
  have hat: ∀(i:Nat) (cs:List AV),((List.range kids.length).map fun i=>(cells.drop (off+i *6)).take 6)[i]? =some cs→i<kids.length∧cs=(cells.drop (off+i *6)).take 6:=by
   intro i cs hi;rw[List.getElem?_map]at hi
   have hlt:i<kids.length:=by
    by_cases h:i<kids.length
    ·exact h
    ·rw[List.getElem?_eq_none (by simp;omega)]at hi;cases hi
   rw[List.getElem?_range hlt]at hi
   injection hi with hi
   exact⟨hlt,hi.symm⟩
  refine⟨_,(List.range kids.length).map fun i=>(cells.drop (off+i *6)).take 6,rfl,.row hr hn hl hlen (fun i cs hi=>(hat i cs hi).2) fun i k cs h1 h2=>?_⟩;rw[(hat i cs h2).2];exact hk i k h1
theorem Y9.yE{R:WM}{k:Cr}(r:Y9 R k cs): ∃o a b c n l kk ls,k=.mk o a b c n l∧cs=[.str o,.int .i64 a,.int .i64 b,.int .i64 c,.int .i64 n,kk]∧Zh R l kk ls:=by
 obtain⟨o,a,b,c,n,l⟩:=k;obtain⟨kk,ls,e,K⟩:=r.Ym;exact⟨o,a,b,c,n,l,kk,ls,rfl,e,K⟩
theorem Y9.shape{R:WM}{k:Cr}{o:List Nat}{a b c n:Int}{kk:AV}(r:Y9 R k [.str o,.int .i64 a,.int .i64 b,.int .i64 c,.int .i64 n,kk]): ∃l ls,k=.mk o a b c n l∧Zh R l kk ls:=by
 obtain⟨o1,a1,b1,c1,n1,l,kk',ls,e1,e,K⟩:=r.yE
 injection e with x1 e;injection e with x2 e;injection e with x3 e;injection e with x4 e;injection e with x5 e;injection e with x6 e
 injection x1 with x1;injection x2 with _ x2;injection x3 with _ x3;injection x4 with _ x4;injection x5 with _ x5
 subst x1 x2 x3 x4 x5 x6;exact⟨l,ls,e1,K⟩
mutual
def ZM:Cr→Nat
 |.mk _ _ _ _ _ l=>UJ l+1
def UJ:List Cr→Nat
 |[]=>0
 |k::l=>ZM k+UJ l
end
theorem Sj(k:Cr):1≤ZM k:=by cases k;rw[ZM];omega
theorem q7{k:Cr}{l:List Cr}(h:k∈l):ZM k≤UJ l:=by
 induction l with
 |nil=>cases h
 |cons x l ih=>
  rw[UJ];rcases List.mem_cons.1 h with rfl|h
  ·omega
  ·have:=ih h;omega
theorem OV{l:List Cr}{k:Cr}(h:l[i]? =some k):UJ (l.drop i)=ZM k+UJ (l.drop (i+1)):=by
 obtain⟨h1,h2⟩:=List.getElem?_eq_some_iff.1 h;rw[List.drop_eq_getElem_cons h1,UJ,h2]
theorem I9{M:Cr→Prop}(h: ∀o a b g n kids,(∀k,k∈kids→M k)→M (.mk o a b g n kids))(k:Cr):M k:=by
 have: ∀n k,ZM k≤n→M k:=by
  intro n
  induction n with
  |zero=>intro k hk;cases k;rw[ZM]at hk;omega
  |succ n ih=>
   intro k hk
   cases k with
   |mk o a b g z kids=>
    rw[ZM]at hk;exact h _ _ _ _ _ _ fun k hm=>ih k (by have:=q7 hm;omega)
 exact this _ k (Nat.le_refl _)
theorem IA{l:List Cr}{k:Cr}(h:l[i]? =some k):k∈l:=List.mem_of_getElem? h
theorem WI{l:List Cr}(h:l.length≤i):l.drop i=[]:=List.drop_eq_nil_of_le h
def Uh(o:List Nat):List Nat×Int×Bool:=
 if [116,114,117,101]=o then([],0,true)else if [115,117,98]=o then([65,66],0,true)else if [115,105,110,103]=o then([65],0,true)else if [102,108,97,103]=o then([65],0,true)
 else if [110,111,110,101]=o then([65],0,true)else if [108,101,115,115]=o then([65,66],0,true)else if [112,108,117,115]=o then([65,66,78],0,true)else if [110,117,109]=o then([65,78],0,true)
 else if [117,110,105,111,110]=o then([65,66,67],0,true)else if [105,110,116,101,114]=o then([65,66,67],0,true)else if [109,105,110,117,115]=o then([65,66,67],0,true)
 else if [110,111,116]=o then([],1,true)else if [97,110,100]=o then([],2,true)else if [101,120]=o then([65],1,true)else([],0,false)
def Um(h:List Nat)(k:Nat)(v n:Int):Bool:=if k∈h then decide (0≤v)&&decide (v<n)else decide (v=0)
mutual
def Jh : Cr → Int → Bool
  | .mk o a b g n l, m => (Uh o).2.2 && (decide (((l.length : Nat) : Int) = (Uh o).2.1) && (Um (Uh o).1 78 n 21 && (if o = [101, 120] then decide (a = m) && (decide (m < 6) && (decide (b = 0) && (decide (g = 0) && ZQ l (m + 1))))
    else Um (Uh o).1 65 a m && (Um (Uh o).1 66 b m && (Um (Uh o).1 67 g m && ZQ l m)))))
def ZQ : List Cr → Int → Bool
  | [], _ => true
  | k :: l, m => Jh k m && ZQ l m
end
theorem IB{l:List Cr}{m:Int}(h:ZQ l m=true){k:Cr}(hk:k∈l):Jh k m=true:=by
 induction l with
 |nil=>cases hk
 |cons x l ih=>
  rw[ZQ,Bool.and_eq_true]at h;rcases List.mem_cons.1 hk with rfl|hk
  ·exact h.1
  ·exact ih h.2 hk
end Go.Proofs.YtiknomepbklibaaGreatDoor
end
section
namespace Go.Proofs.YtiknomepbklibaaGreatDoor
open Go Go.RowKit

theorem H7{a b:Au}(h:a.tr=b.tr){w:List Nat}(hw:OO a.K w):OO b.K w:=by unfold Au.K at *;rw[←h];exact hw
structure JA(a m:Au):Prop where
 canon:Canon m
 like:XL m a 0 0
 tr:m.tr=a.tr
theorem JA.uniq{a b m p:Au}(h1:JA a m)(h2:JA b p)(ht:b.tr=a.tr)(hl:XL a b 0 0):m=p:=
 RI h1.canon h2.canon (by rw[h1.tr,h2.tr,ht]) fun w hw=>by
  have ha:=H7 h1.tr hw;rw[h1.like w hw,hl w ha];exact(h2.like w (H7 (ht.symm.trans h2.tr.symm) ha)).symm
theorem XL.refl(a:Au)(s:Nat):XL a a s s:=fun _ _=>rfl
theorem JA.self{a:Au}(h:Canon a):JA a a:=⟨h,XL.refl a 0,rfl⟩
def Au.neg(a:Au):Au:=⟨a.tr,a.acc.map (!·),a.nx⟩
theorem Hz(a:Au):a.neg.n=a.n:=by simp[Au.neg,Au.n]
theorem vY{a:Au}{s:Nat}(h:s<a.n):a.neg.ok s= !a.ok s:=by
 unfold Au.ok Au.neg;simp only[List.getElem?_map];rw[List.getElem?_eq_getElem h];rfl
theorem Rj{a:Au}(W:Zt a):Zt a.neg:=
 ⟨W.tr,by rw[Hz];exact W.pos,by rw[Hz];exact W.most,by rw[Hz];exact W.len,fun r hr=>by rw[Hz];exact W.row r hr⟩
theorem SM{a:Au}(W:Zt a){w:List Nat}(hw:OO a.K w){s:Nat}(hs:s<a.n):a.neg.ok (a.neg.run s w)= !a.ok (a.run s w):=vY (W.PI w hs hw)
theorem Mm{a:Au}(C:Canon a):Canon a.neg:=
 ⟨Rj C.wf,fun s t hs ht hl=>C.red s t (Hz a▸hs) (Hz a▸ht) fun w hw=>by
  have h:=hl w hw;rw[SM C.wf hw (Hz a▸hs),SM C.wf hw (Hz a▸ht)]at h
  simpa using h,fun k h0 hk=>C.first k h0 (Hz a▸hk)⟩
theorem neg_neg(a:Au):a.neg.neg=a:=by
 obtain⟨t,c,n⟩:=a;show Au.mk t ((c.map (!·)).map (!·)) n=_;rw[List.map_map]
 congr 1
 exact(List.map_congr_left fun x _=>Bool.not_not x).trans (List.map_id c)
def QV (o : List Nat) (n s a b d : Nat) : Nat :=
  if s = 30 then 30
  else if o = [115, 117, 98] then (if a ≤ b then 0 else 30)
  else if o = [110, 111, 110, 101] then (if a = 0 then 0 else 30)
  else if o = [117, 110, 105, 111, 110] then (if d = a ||| b then 0 else 30)
  else if o = [105, 110, 116, 101, 114] then (if d = a &&& b then 0 else 30)
  else if o = [109, 105, 110, 117, 115] then (if d = a - b then 0 else 30)
  else if o = [102, 108, 97, 103] then (if s = 1 ∨ a = 1 then 1 else 30)
  else if o = [115, 105, 110, 103] then (if 1 < s + a then 30 else s + a)
  else if o = [110, 117, 109] then (if s = n + 1 ∧ a = 0 then s else if n < s ∨ (s < n ∧ a = 1) ∨ (s = n ∧ a = 0) then 30 else s + 1)
  else if o = [108, 101, 115, 115] then (if a + b = 0 then s else if s = 0 ∧ a = 1 ∧ b = 0 then 1 else if s = 1 ∧ a = 0 ∧ b = 1 then 2 else 30)
  else if o = [112, 108, 117, 115] then
    (if s = n + 1 ∨ (s = 0 ∧ a = 0) then (if a + b = 0 then s else 30)
     else if s = 0 ∧ n = 0 then (if b = 1 then 1 else 30)
     else if s = 0 then (if b = 0 then 1 else 30)
     else if a = 1 ∨ (s < n ∧ b = 1) ∨ (s = n ∧ b = 0) then 30 else s + 1)
  else 0
def Xj(o:List Nat)(n s:Nat):Bool:=
 if s=30 then false
 else if o=[102,108,97,103]∨o=[115,105,110,103]then decide (s=1)
 else if o=[108,101,115,115]then decide (s=2)
 else if o=[112,108,117,115]∨o=[110,117,109]then decide (s=n+1)
 else true
def Ci(l v:Nat):Nat:=l/2^v % 2
def Hm(o:List Nat)(n a b d s l:Nat):Nat:=min (QV o n s (Ci l a) (Ci l b) (Ci l d)) 30
def Xp(o:List Nat)(a b d n k:Nat):Au:=⟨k,(List.range 31).map (Xj o n),(List.range 31).map fun s=>(List.range (2^k)).map fun l=>((Hm o n a b d s l:Nat):Int)⟩
section
variable {o:List Nat} {a b d n k:Nat}
theorem Cj:(Xp o a b d n k).n=31:=by simp[Xp,Au.n]
theorem yn{s l:Nat}(hs:s<31)(hl:l<2^k):(Xp o a b d n k).go s l=Hm o n a b d s l:=by
 unfold Au.go Xp;simp only[List.getElem?_map,List.getElem?_range hs,Option.map_some,Option.getD_some,List.getElem?_range hl,Int.toNat_natCast]
theorem ym{s:Nat}(hs:s<31):(Xp o a b d n k).ok s=Xj o n s:=by
 unfold Au.ok Xp;simp only[List.getElem?_map,List.getElem?_range hs,Option.map_some,Option.getD_some]
theorem L5(s l:Nat):Hm o n a b d s l<31:=by unfold Hm;omega
theorem Pp(hk:k≤6):Zt (Xp o a b d n k):=by
 refine⟨hk,by rw[Cj];decide,by rw[Cj];decide,by simp[Xp,Au.n],fun r hr=>?_⟩;obtain⟨s,_,rfl⟩:=List.mem_map.1 hr;refine⟨by simp[Xp,Au.K],fun z hz=>?_⟩;obtain⟨l,_,rfl⟩:=List.mem_map.1 hz;have:=L5 (o:=o) (n:=n) (a:=a) (b:=b) (d:=d) s l;rw[Cj];omega
end
inductive Jo:Cr→Nat→Au→Nat→Prop
 |atom {o:List Nat} {a b d n:Int} {k:Nat} {m:Au} (h1:o≠[110,111,116]) (h2:o≠[97,110,100]) (h3:o≠[101,120]) (h:JA (Xp o a.toNat b.toNat d.toNat n.toNat k) m):Jo (.mk o a b d n []) k m m.n
 |not {o:List Nat} {a b d n:Int} {x:Cr} {k s:Nat} {p m:Au} (ho:o=[110,111,116]) (hx:Jo x k p s) (h:JA p.neg m):Jo (.mk o a b d n [x]) k m (s+m.n)
 |and {o:List Nat} {a b d n:Int} {x y:Cr} {k s t:Nat} {p q r m:Au} {lp:List (Nat×Nat)} (ho:o=[97,110,100]) (hx:Jo x k p s) (hy:Jo y k q t) (hb:E5 p q 8 lp r) (h:JA r m):Jo (.mk o a b d n [x,y]) k m (s+t+m.n)
 |ex {o:List Nat} {a b d n:Int} {x:Cr} {k s:Nat} {p r m:Au} {acc:List Bool} {L:List (List Int)} (ho:o=[101,120]) (hx:Jo x (k+1) p s) (hc:A4 p k acc) (hm:Uw (Up p k) [0] (anyS acc) L r) (ht:r.tr=k) (h:JA r m):Jo (.mk o a b d n [x]) k m (s+m.n)
section
variable {c x y:Cr} {k s t:Nat} {m p q:Au}
theorem Jo.least(h:Jo c k m s): ∃r,JA r m:=by cases h<;>exact⟨_,‹JA _ m›⟩
theorem Jo.canon(h:Jo c k m s):Canon m:=by obtain⟨r,h⟩:=h.least;exact h.canon
theorem Jo.wf(h:Jo c k m s):Zt m:=h.canon.wf
theorem Jo.ge(h:Jo c k m s):m.n≤s:=by cases h<;>omega
theorem Jo.pos(h:Jo c k m s):1≤s:=Nat.le_trans h.wf.pos h.ge
theorem Jo.tr(h:Jo c k m s):m.tr=k:=by
 induction h with
 |atom _ _ _ h=>exact h.tr
 |not _ hx h ih=>exact h.tr.trans ih
 |and _ hx hy hb h ih1 ih2=>exact h.tr.trans (hb.2.trans ih1)
 |ex _ hx hc hm ht h ih=>exact h.tr.trans ht
theorem Jo.le(h:Jo c k m s):s≤400 *ZM c:=by
 induction h with
 |atom _ _ _ h=>have:=h.canon.wf.most;rw[ZM,UJ];omega
 |not _ hx h ih=>have:=h.canon.wf.most;rw[ZM,UJ,UJ];omega
 |and _ hx hy hb h ih1 ih2=>have:=h.canon.wf.most;rw[ZM,UJ,UJ,UJ];omega
 |ex _ hx hc hm ht h ih=>have:=h.canon.wf.most;rw[ZM,UJ,UJ];omega
theorem GV(x y:Bool):Lw 8 x y=(x&&y):=by cases x<;>cases y<;>rfl
theorem Jo.uniq(h:Jo c k m s): ∀{m':Au} {s':Nat},Jo c k m' s'→m=m'∧s=s':=by
 induction h with
 |atom h1 h2 h3 h=>
  intro m' s' h'
  cases h' with
  |atom _ _ _ h'=>
   have e:=h.uniq h' rfl (XL.refl _ _);subst e;exact⟨rfl,rfl⟩
 |not ho hx h ih=>
  intro m' s' h'
  cases h' with
  |not ho' hx' h'=>
   obtain⟨rfl,rfl⟩:=ih hx';have e:=h.uniq h' rfl (XL.refl _ _);subst e;exact⟨rfl,rfl⟩
  |ex ho'=>rw[ho]at ho';simp at ho'
 |and ho hx hy hb h ih1 ih2=>
  intro m' s' h'
  cases h' with
  |and ho' hx' hy' hb' h'=>
   obtain⟨rfl,rfl⟩:=ih1 hx';obtain⟨rfl,rfl⟩:=ih2 hy'
   have e:=h.uniq h' (by rw[hb.2,hb'.2]) fun w hw=>by
    have hp:=H7 hb.2 hw;rw[hb.My hp,hb'.My hp]
   subst e;exact⟨rfl,rfl⟩
 |ex ho hx hc hm ht h ih=>
  intro m' s' h'
  cases h' with
  |not ho'=>rw[ho]at ho';simp at ho'
  |ex ho' hx' hc' hm' ht' h'=>
   obtain⟨rfl,rfl⟩:=ih hx';obtain rfl:=hc.uniq hc'
   have e:=h.uniq h' (by rw[ht,ht']) fun w hw=>by
    rw[hm.My hw,hm'.My (H7 (ht.trans ht'.symm) hw)]
   subst e;exact⟨rfl,rfl⟩
end
section
variable {α β:Type} {δ:α→Nat→α} {δ':β→Nat→β} {s0:α} {pr:α→Bool} {pr':β→Bool} {l:List α} {m:Au}
theorem Uw.map(H:Uw δ s0 pr l m)(f:α→β)(hi: ∀x y,f x=f y→x=y)(hd: ∀x c,f (δ x c)=δ' (f x) c)(hp: ∀x,pr' (f x)=pr x):Uw δ' (f s0) pr' (l.map f) m:=by
 obtain⟨es,E,R⟩:=H.ex;refine⟨⟨es,⟨?_,?_,fun p v hv=>?_,fun k h0 hk=>?_⟩,R⟩,by rw[List.length_map];exact H.len,?_,H.tr,by rw[List.length_map];exact H.most⟩
 ·rw[List.getElem?_map,E.head];rfl
 ·exact List.Pairwise.map f (fun x y hne e=>hne (hi x y e)) E.nodup
 ·obtain⟨s,h1,h2⟩:=E.step p v hv;exact⟨f s,by rw[List.getElem?_map,h1];rfl,by rw[List.getElem?_map,h2,←hd];rfl⟩
 ·rw[List.length_map]at hk;exact E.first k h0 hk
 ·rw[H.acc,List.map_map];exact List.map_congr_left fun x _=>(hp x).symm
end
theorem E5.swap{a b m:Au}{l:List (Nat×Nat)}(H:E5 a b 8 l m)(ht:b.tr=a.tr):E5 b a 8 (l.map Prod.swap) m:=
 ⟨H.1.map Prod.swap (fun x y e=>by have:=congrArg Prod.swap e;rwa [Prod.swap_swap,Prod.swap_swap]at this) (fun x c=>rfl) fun x=>by
  show Lw 8 (b.ok x.2) (a.ok x.1)=Lw 8 (a.ok x.1) (b.ok x.2)
  rw[GV,GV,Bool.and_comm],H.2.trans ht.symm⟩
theorem Canon.made{a:Au}(C:Canon a):Uw a.go 0 a.ok (List.range a.n) a:=by
 have W:=C.wf;have hK:0<a.K:=Nat.two_pow_pos _;have hrow: ∀r∈a.nx,r.length=a.K:=fun r hr=>(W.row r hr).1
 have hlen:a.nx.flatten.length=a.n *a.K:=by rw[I5 hrow,W.len]
 have hflat:a.nx.flatten=(a.nx.flatten.map Int.toNat).map fun v=>((v:Nat):Int):=by
  rw[List.map_map];refine(List.map_id _).symm.trans (List.map_congr_left fun z hz=>?_);obtain⟨r,hr,hz⟩:=List.mem_flatten.1 hz;exact(Int.toNat_of_nonneg ((W.row r hr).2 z hz).1).symm
 have R:T0 a.K a.nx (a.nx.flatten.map Int.toNat):=⟨hrow,hflat⟩
 have hat: ∀p v,(a.nx.flatten.map Int.toNat)[p]? =some v→p/a.K<a.n∧p % a.K<a.K∧v=a.go (p/a.K) (p % a.K):=fun p v hv=>by
  have hp:=(List.getElem?_eq_some_iff.1 hv).1;rw[List.length_map,hlen]at hp;have h1:p/a.K<a.n:=(Nat.div_lt_iff_lt_mul hK).2 hp;have h2:=Nat.mod_lt p hK;obtain⟨h3,_⟩:=R.go (a:=a) (i:=p/a.K) (c:=p % a.K) (by rw[W.len];exact h1) h2;rw[Nat.mul_comm,Nat.div_add_mod,hv]at h3
  injection h3 with h3
  exact⟨h1,h2,h3⟩
 have hin: ∀i c,i<a.n→c<a.K→(i *a.K+c)/a.K=i∧(i *a.K+c) % a.K=c∧(a.nx.flatten.map Int.toNat)[i *a.K+c]? =some (a.go i c):=fun i c hi hc=>by
  refine⟨by rw[Nat.mul_comm,Nat.mul_add_div hK,Nat.div_eq_of_lt hc];rfl,by rw[Nat.mul_comm,Nat.mul_add_mod];exact Nat.mod_eq_of_lt hc,?_⟩;exact(R.go (a:=a) (by rw[W.len];exact hi) hc).1
 refine⟨⟨_,⟨?_,List.nodup_range,fun p v hv=>?_,fun k h0 hk=>?_⟩,R⟩,by rw[List.length_range];exact W.len,?_,W.tr,by rw[List.length_range];exact W.most⟩
 ·exact List.getElem?_range W.pos
 ·obtain⟨h1,h2,rfl⟩:=hat p v hv;exact⟨_,List.getElem?_range h1,List.getElem?_range (W.UQ h1 h2)⟩
 ·rw[List.length_range]at hk;obtain⟨i,c,h1,h2,h3,h4⟩:=C.first k h0 hk;obtain⟨e1,e2,e3⟩:=hin i c Qe h2;refine⟨i *a.K+c,by rw[e1];exact h1,by rw[e3,h3],fun q v hq hv=>?_⟩;obtain⟨k1,k2,rfl⟩:=hat q v hv;refine h4 _ _ ?_ k2
  have hle:q/a.K≤i:=by rw[←e1];exact Nat.div_le_div_right (Nat.le_of_lt hq)
  rcases Nat.lt_or_ge (q/a.K) i with h|h
  ·exact .inl h
  ·have he:q/a.K=i:=Nat.le_antisymm hle h;refine .inr ⟨he,?_⟩;have:=Nat.div_add_mod q a.K;rw[he,Nat.mul_comm]at this;omega
 ·apply List.ext_getElem?;intro i
  by_cases hi:i<a.n
  ·rw[List.getElem?_map,List.getElem?_range hi,List.getElem?_eq_getElem hi];show _=some (a.ok i);unfold Au.ok;rw[List.getElem?_eq_getElem hi];rfl
  ·rw[List.getElem?_eq_none (by unfold Au.n at hi;omega),List.getElem?_eq_none (by rw[List.length_map,List.length_range];omega)]
theorem Canon.diag{a:Au}(C:Canon a):E5 a a 8 ((List.range a.n).map fun s=>(s,s)) a:=
 ⟨C.made.map (fun s=>(s,s)) (fun x y e=>congrArg Prod.fst e) (fun x c=>rfl) fun x=>by
  show Lw 8 (a.ok x) (a.ok x)=a.ok x
  rw[GV,Bool.and_self],rfl⟩
abbrev Bz(x:Cr):Cr:=.mk [110,111,116] 0 0 0 0 [x]
abbrev NX(x y:Cr):Cr:=.mk [97,110,100] 0 0 0 0 [x,y]
section
variable {x y:Cr} {k s:Nat} {m:Au}
theorem Jo.vX(h:Jo x k m s):Jo (Bz (Bz x)) k m (s+m.neg.n+m.n):=by
 have h1:Jo (Bz x) k m.neg (s+m.neg.n):=.not rfl h (JA.self (Mm h.canon));exact .not rfl h1 (by rw[neg_neg];exact JA.self h.canon)
theorem Jo.ee(h:Jo x k m s):Jo (NX x x) k m (s+s+m.n):=.and rfl h h h.canon.diag (JA.self h.canon)
theorem Jo.swap(h:Jo (NX x y) k m s): ∃t,Jo (NX y x) k m t:=by
 cases h with
 |and _ hx hy hb h=>exact⟨_,.and rfl hy hx (hb.swap (hy.tr.trans hx.tr.symm)) h⟩
end
end Go.Proofs.YtiknomepbklibaaGreatDoor
end
section
namespace Go.Proofs.YtiknomepbklibaaGreatDoor
open Go Go.RowKit
set_option maxHeartbeats 8000000
set_option maxRecDepth 100000

theorem Pw{st:St}(hf:Qj st){l:List Int}{kl:AV}(hl:Jk st.h.get [] 1 (zC l) kl)(hns:kl=.nils∨ ∃c m o n,kl=.sl c m o n 1)(hn:l.length≤100000)(x:Nat)(hx:x≤100000): ∃v st',Ev Tryz.prog Q5 152 [kl,iN x] st v st'∧ ∃ks b,v=.tup [ks,.bool b]∧(Ep st st' 1 ks (zC (Xi ((x:Nat):Int) l))∨(ks=kl∧Xi ((x:Nat):Int) l=l))∧Qt st st':=by
 have hcl:=Qn l;have hlc:=hl.cell;refine JI Tryz.func152 Tryz.ntmps152 fun T K=>?_;have M:=Mem.start hf;refine Qc 4 K M ?_;intro _ K;refine Un K (Qg rfl) rfl (fun _ e9 K=>?_) fun _ e9 K=>?_
 · refine Qc 3 K M ?_;intro _ K;refine JS K rfl (fun h12=>?_) fun h12=>?_
   ·refine Qc 3 K M ?_
    first
     |(exfalso;omega)
     |exact⟨_,_,rfl,.inr ⟨rfl,AG hkx (by rw[hi35];exact congrArg some h39)⟩,M.qt⟩
   refine Xr ?_;show W _ _ _ _ _ _ _;refine QD<|Qv<|p1 K (U6 rfl) fun _ K=>Uo ?_;show W _ _ _ _ _ _ _;refine Se (J:=fun T st9=> ∃(i:Nat),QZ [(0,kl),(1,iN x),(4,.nils),(5,.bool false),(6,iN i)] T∧Mem st.h.get st.n [] st9 []∧i≤l.length∧(∀z∈l.take i,z<((x:Nat):Int))∧(∀z,l[i]? =some z→ ¬z<((x:Nat):Int))) ?_ (fun T st9 hJ=>?_)
   ·refine GO ?_;refine Je (fun mm1 T st9=> ∃(i:Nat),mm1=l.length-i∧QZ [(0,kl),(1,iN x),(4,.nils),(5,.bool false),(6,iN i)] T∧Mem st.h.get st.n [] st9 []∧i≤l.length∧(∀z∈l.take i,z<((x:Nat):Int))) (fun mm1 T st9 hI=>?_) _ _ _ ⟨0,rfl,(K.sub rfl),M.less (.refl _),(Nat.zero_le _),QA⟩;obtain⟨i,rfl,K,M,hil,hkx⟩:=hI;refine Qc 2 K M ?_;intro _ K;refine p1 K (Q8 Jr rfl rfl (hl.len.trans (congrArg some (Qn _)))) fun _ K=>?_;refine Qc 1 K M ?_;intro _ K;refine Un K (Qg rfl) rfl (fun _ e18 K=>?_) fun _ e18 K=>?_
    · refine Qc 8 K M ?_;intro _ K;refine QW ?_;exact⟨i,(K.sub rfl),M.less (.refl _),hil,hkx,(fun z hz=>by first|(rw[List.getElem?_eq_none Qe]at hz;cases hz)|(rw[hz]at hi21;injection hi21 with e1;omega))⟩
    refine Qc 2 K M ?_;intro _ K;obtain⟨y21,hi21⟩:=U9 l i Qe;obtain⟨x21,m21,f21,q21,_,la21,lo21,lp21⟩:=(Jk.mem M hl QA).load (i:=i) (cs:=_) (Jt hi21);refine pg K rfl rfl (Qb (j:=i) Qw (congrArg some q21) rfl (by rw[Qn];omega)) fun _ K=>pg K rfl rfl (Qd rfl (lo21 _ 0 _ Qr rfl)) fun _ K=>?_;refine Qc 3 K M ?_;intro _ K;refine JS K rfl (fun h25=>?_) fun h25=>?_
    · refine Qc 3 K M ?_;intro _ K;exact⟨_,Qe,i+1,rfl,(K.sub rfl),M.less (.refl _),Qe,(yX hkx hi21 Qe)⟩
    refine QW ?_;exact⟨i,(K.sub rfl),M.less (.refl _),hil,hkx,(fun z hz=>by first|(rw[List.getElem?_eq_none Qe]at hz;cases hz)|(rw[hz]at hi21;injection hi21 with e1;omega))⟩
   obtain⟨i,K,M,hil,hkx,hnx⟩:=hJ;refine Qc 2 K M ?_;intro _ K;refine p1 K (Q8 Jr rfl rfl (hl.len.trans (congrArg some (Qn _)))) fun _ K=>?_;refine Qc 1 K M ?_;intro _ K;refine Un K (Qg rfl) rfl (fun _ e32 K=>?_) fun _ e32 K=>?_
   ·refine Qc 8 K M ?_;intro _ K;refine QF (l:=[(0,0),(1,0),(2,0),(3,0),(4,0),(5,0),(6,0),(7,0),(8,0),(9,0),(10,0),(11,0),(12,0),(13,0)]) (by kernel_rfl) ?_;refine Xk rfl K M QM Vs rfl rfl rfl rfl rfl fun c41 _ _ K M=>?_;refine Jc 2 K M ?_;intro _ K;refine A5 (l:=l) (a:=0) (b:=i) rfl K Qw (Jk.mem M hl QA) hns rfl rfl rfl Qe Qe rfl fun v44 _ K r44 hc44=>?_;replace M:=Mem.cast (M':=([(c41,0,[])]++[])) (Mem.perm M (List.perm_append_comm (α:=Nat×Nat×List AV) (l₁:=[(c41,0,[])]) (l₂:=[]))) Uu;have hA0c41:Acc st.n 1 [(c41,0,[])] (.sl c41 0 0 0 1) []:=Acc.own (n0:=st.n) (z:=1) (c:=c41) (m:=0) (ls:=[]) ((M.own c41 0 [] QA).resolve_right QA) QA QA;refine A6 (L:=[]) (A:=[(c41,0,[])]) (B:=[]) rfl K M hA0c41 QM rfl rfl r44 (Fz _) (by simp[Qn];omega) rfl fun ks45 A45 _ _ K hA45 M=>?_;refine q1 rfl K (Qg rfl) fun _ K=>?_;refine Xk rfl K M QM Vs rfl rfl rfl rfl rfl fun c47 _ _ K M=>?_;refine GN (k2:=0) (L:=[(c47,0,[iN x])]) (A:=A45) (B:=[]) rfl K M hA45 QM rfl rfl rfl rfl (by simp[Qn];omega) rfl fun ks48 A48 _ _ K hA48 M=>?_;refine Jc 2 K M ?_;intro _ K;refine A5 (l:=l) (a:=i) (b:=l.length) rfl K Qw (Jk.mem M hl QA) hns rfl rfl rfl Qe Qe rfl fun v51 _ K r51 hc51=>?_;refine A6 (L:=[(c47,0,[iN x])]) (A:=A48) (B:=[]) rfl K M hA48 QM rfl rfl r51 (Fz _) (by simp[Qn];omega) rfl fun ks52 A52 _ _ K hA52 M=>?_;refine Jc 2 K M ?_;intro _ K;refine QH ?_;show W _ _ _ _ _ _ _;refine Qc 0 K M ?_;have hins:Xi ((x:Nat):Int) l=l.take i++((x:Nat):Int)::l.drop i:=BM hil hkx (fun z hz=>by first|(rw[List.getElem?_eq_none Qe]at hz;cases hz)|(have h1:=hnx z hz;have e1:=Option.some.inj (hi35.symm.trans hz);omega));have e2:(l.drop i).take (l.length-i)=l.drop i:=List.take_of_length_le QA;have h:=hA52;rw[e2,List.drop_zero,Nat.sub_zero,List.nil_append,List.append_assoc]at h;refine⟨_,_,rfl,.inl ?_,M.qt⟩;rw[hins,JY,Sa];exact Mem.B5 (L:=[(c47,0,[iN x])]) (A:=A52) (B:=[]) M h
   refine Qc 2 K M ?_;intro _ K;obtain⟨y35,hi35⟩:=U9 l i Qe;obtain⟨x35,m35,f35,q35,_,la35,lo35,lp35⟩:=(Jk.mem M hl QA).load (i:=i) (cs:=_) (Jt hi35);refine pg K rfl rfl (Qb (j:=i) Qw (congrArg some q35) rfl (by rw[Qn];omega)) fun _ K=>pg K rfl rfl (Qd rfl (lo35 _ 0 _ Qr rfl)) fun _ K=>?_;refine Qc 3 K M ?_;intro _ K;refine JS K rfl (fun h39=>?_) fun h39=>?_
   ·refine Qc 3 K M ?_
    first
     |(exfalso;omega)
     |exact⟨_,_,rfl,.inr ⟨rfl,AG hkx (by rw[hi35];exact congrArg some h39)⟩,M.qt⟩
   refine Qc 0 K M ?_;intro _ K;refine QF (l:=[(0,0),(1,0),(2,0),(3,0),(4,0),(5,0),(6,0),(7,0),(8,0),(9,0),(10,0),(11,0),(12,0),(13,0)]) (by kernel_rfl) ?_;refine Xk rfl K M QM Vs rfl rfl rfl rfl rfl fun c41 _ _ K M=>?_;refine Jc 2 K M ?_;intro _ K;refine A5 (l:=l) (a:=0) (b:=i) rfl K Qw (Jk.mem M hl QA) hns rfl rfl rfl Qe Qe rfl fun v44 _ K r44 hc44=>?_;replace M:=Mem.cast (M':=([(c41,0,[])]++[])) (Mem.perm M (List.perm_append_comm (α:=Nat×Nat×List AV) (l₁:=[(c41,0,[])]) (l₂:=[]))) Uu;have hA0c41:Acc st.n 1 [(c41,0,[])] (.sl c41 0 0 0 1) []:=Acc.own (n0:=st.n) (z:=1) (c:=c41) (m:=0) (ls:=[]) ((M.own c41 0 [] QA).resolve_right QA) QA QA;refine A6 (L:=[]) (A:=[(c41,0,[])]) (B:=[]) rfl K M hA0c41 QM rfl rfl r44 (Fz _) (by simp[Qn];omega) rfl fun ks45 A45 _ _ K hA45 M=>?_;refine q1 rfl K (Qg rfl) fun _ K=>?_;refine Xk rfl K M QM Vs rfl rfl rfl rfl rfl fun c47 _ _ K M=>?_;refine GN (k2:=0) (L:=[(c47,0,[iN x])]) (A:=A45) (B:=[]) rfl K M hA45 QM rfl rfl rfl rfl (by simp[Qn];omega) rfl fun ks48 A48 _ _ K hA48 M=>?_;refine Jc 2 K M ?_;intro _ K;refine A5 (l:=l) (a:=i) (b:=l.length) rfl K Qw (Jk.mem M hl QA) hns rfl rfl rfl Qe Qe rfl fun v51 _ K r51 hc51=>?_;refine A6 (L:=[(c47,0,[iN x])]) (A:=A48) (B:=[]) rfl K M hA48 QM rfl rfl r51 (Fz _) (by simp[Qn];omega) rfl fun ks52 A52 _ _ K hA52 M=>?_;refine Jc 2 K M ?_;intro _ K;refine QH ?_;show W _ _ _ _ _ _ _;refine Qc 0 K M ?_;have hins:Xi ((x:Nat):Int) l=l.take i++((x:Nat):Int)::l.drop i:=BM hil hkx (fun z hz=>by first|(rw[List.getElem?_eq_none Qe]at hz;cases hz)|(have h1:=hnx z hz;have e1:=Option.some.inj (hi35.symm.trans hz);omega));have e2:(l.drop i).take (l.length-i)=l.drop i:=List.take_of_length_le QA;have h:=hA52;rw[e2,List.drop_zero,Nat.sub_zero,List.nil_append,List.append_assoc]at h;refine⟨_,_,rfl,.inl ?_,M.qt⟩;rw[hins,JY,Sa];exact Mem.B5 (L:=[(c47,0,[iN x])]) (A:=A52) (B:=[]) M h
 refine Qc 7 K M ?_
 first
  |(exfalso;omega)
  |exact⟨_,_,rfl,.inr ⟨rfl,AG hkx (by rw[hi35];exact congrArg some h39)⟩,M.qt⟩
end Go.Proofs.YtiknomepbklibaaGreatDoor
end
section
namespace Go.Proofs.YtiknomepbklibaaGreatDoor
open Go Go.RowKit
variable {c2 k k2 m2:Nat} {e t:TypeId} {l2:List AV}

abbrev Fp:=Nat→Prop
abbrev QP:=List (Nat×Nat×List AV)
structure Ob where
 F:Fp
 H:Hp→Prop
 fr: ∀h h',(∀c,F c→h' c=h c)→H h→H h'
structure Qk(st0:St)(X0:Fp)(st:St)(M:QP)(Os:List Ob):Prop where
 fresh:Qj st
 le:st0.n≤st.n
 row: ∀c m l,(c,m,l)∈M→Q4 st.h.get c m l
 nodup:(M.map Prod.fst).Nodup
 lo: ∀c m l,(c,m,l)∈M→st0.n≤c∨X0 c
 obj: ∀o∈Os,o.H st.h.get
 hi: ∀o∈Os,∀c,o.F c→c<st.n∧(st0.n≤c∨X0 c)
 dj:Os.Pairwise fun o p=> ∀c,o.F c→ ¬p.F c
 djM: ∀o∈Os,∀c m l,(c,m,l)∈M→ ¬o.F c
 J8: ∀c,c<st0.n→ ¬X0 c→st.h.get c=st0.h.get c
abbrev Xu:Fp:=fun _=>False
def ZT(st st':St)(F:Fp):Prop:= ∀c,F c→st.n≤c∧c<st'.n
def WN(st st':St)(F F':Fp):Prop:= ∀c,F' c→(F c∨st.n≤c)∧c<st'.n
section
variable {st0 st st' st2:St} {X0:Fp} {M M' M2 R:QP} {Os Os':List Ob} {o o':Ob}
theorem Qk.start(hf:Qj st):Qk st Xu st [] []:=
 ⟨hf,Nat.le_refl _,fun c m l h=>(by cases h),List.nodup_nil,fun c m l h=>(by cases h),fun o h=>(by cases h),fun o h=>(by cases h),.nil,fun o h=>(by cases h),fun _ _ _=>rfl⟩
theorem Qk.UM(hf:Qj st)(h:o.H st.h.get)(hi: ∀c,o.F c→c<st.n):Qk st o.F st [] [o]:=
 ⟨hf,Nat.le_refl _,fun c m l h=>(by cases h),List.nodup_nil,fun c m l h=>(by cases h),fun p hp=>by rw[List.mem_singleton.1 hp];exact h,fun p hp c hc=>by rw[List.mem_singleton.1 hp]at hc;exact⟨hi c hc,.inr hc⟩,
  List.pairwise_singleton _ _,fun p hp c m l h=>(by cases h),fun _ _ _=>rfl⟩
theorem Qk.mem(B:Qk st0 X0 st M Os):Mem st.h.get st.n (M.map Prod.fst) st M:=Mem.PA B.fresh M B.row B.nodup
theorem Qk.step(B:Qk st0 X0 st M Os)(hM:Mem st.h.get st.n (M.map Prod.fst) st2 M2):Qk st0 X0 st2 M2 Os:=by
 have hlo: ∀c∈M.map Prod.fst,st0.n≤c∨X0 c:=fun c hc=>by
  obtain⟨⟨c,m,l⟩,h1,rfl⟩:=List.mem_map.1 hc;exact B.lo c m l h1
 have hdj: ∀o∈Os,∀c,o.F c→c∉M.map Prod.fst:=fun o ho c hc hm=>by
  obtain⟨⟨c,m,l⟩,h1,rfl⟩:=List.mem_map.1 hm;exact B.djM o ho c m l h1 hc
 refine⟨hM.fresh,Nat.le_trans B.le hM.le,hM.row,hM.nodup,fun c m l hm=>?_,fun o ho=>?_,fun o ho c hc=>?_,B.dj,fun o ho c m l hm hc=>?_,fun c hc hx=>?_⟩
 ·rcases hM.own c m l hm with h|h
  ·exact .inl (Nat.le_trans B.le h)
  ·exact hlo c h
 ·exact o.fr _ _ (fun c hc=>hM.J8 c (B.hi o ho c hc).1 (hdj o ho c hc)) (B.obj o ho)
 ·exact⟨Nat.lt_of_lt_of_le (B.hi o ho c hc).1 hM.le,(B.hi o ho c hc).2⟩
 ·rcases hM.own c m l hm with h|h
  ·have:=(B.hi o ho c hc).1;omega
  ·exact hdj o ho c hc h
 ·rw[hM.J8 c (Nat.lt_of_lt_of_le hc B.le) fun h=>by
   rcases hlo c h with h|h
   ·omega
   ·exact hx h]
  exact B.J8 c hc hx
theorem Qk.at_(B:Qk st0 X0 st M Os)(hk:Os[k]? =some o):o.H st.h.get:=B.obj o (List.mem_of_getElem? hk)
theorem Qk.Yw(B:Qk st0 X0 st M Os)(hk:Os[k]? =some o): ∀c,o.F c→c<st.n:=fun c hc=>(B.hi o (List.mem_of_getElem? hk) c hc).1
theorem Qk.Ld(B:Qk st0 X0 st M Os)(hk:Os[k]? =some o): ∀c,o.F c→st0.n≤c∨X0 c:=fun c hc=>(B.hi o (List.mem_of_getElem? hk) c hc).2
theorem Qk.jP(B:Qk st0 Xu st M Os)(hk:Os[k]? =some o):ZT st0 st o.F:=fun c hc=>⟨(B.Ld hk c hc).resolve_right id,B.Yw hk c hc⟩
theorem Qk.less(B:Qk st0 X0 st M Os)(hs:M'.Sublist M):Qk st0 X0 st M' Os:=
 ⟨B.fresh,B.le,fun c m l h=>B.row c m l (hs.subset h),B.nodup.sublist (hs.map _),fun c m l h=>B.lo c m l (hs.subset h),B.obj,B.hi,B.dj,fun o ho c m l h=>B.djM o ho c m l (hs.subset h),B.J8⟩
theorem Qk.perm(B:Qk st0 X0 st M Os)(p:M.Perm M'):Qk st0 X0 st M' Os:=
 ⟨B.fresh,B.le,fun c m l h=>B.row c m l (p.symm.subset h),(p.map _).nodup B.nodup,fun c m l h=>B.lo c m l (p.symm.subset h),B.obj,B.hi,B.dj,fun o ho c m l h=>B.djM o ho c m l (p.symm.subset h),B.J8⟩
theorem Qk.cast(B:Qk st0 X0 st M Os)(e:M=M'):Qk st0 X0 st M' Os:=e▸B
theorem Qk.Nq(B:Qk st0 X0 st M Os)(hs:Os'.Sublist Os):Qk st0 X0 st M Os':=
 ⟨B.fresh,B.le,B.row,B.nodup,B.lo,fun o h=>B.obj o (hs.subset h),fun o h=>B.hi o (hs.subset h),B.dj.sublist hs,fun o h=>B.djM o (hs.subset h),B.J8⟩
theorem Qk.Gd(B:Qk st0 X0 st M Os)(p:Os.Perm Os'):Qk st0 X0 st M Os':=
 ⟨B.fresh,B.le,B.row,B.nodup,B.lo,fun o h=>B.obj o (p.symm.subset h),fun o h=>B.hi o (p.symm.subset h),p.pairwise B.dj (fun h c h1 h2=>h c h2 h1),fun o h=>B.djM o (p.symm.subset h),B.J8⟩
theorem Qk.quiet(B:Qk st0 X0 st M Os)(q:Qt st st'):Qk st0 X0 st' M Os:=
 B.step (B.mem.quiet q)
theorem Qk.new(B:Qk st0 X0 st M Os)(q:Qt st st')(h:o.H st'.h.get)(hn:ZT st st' o.F):Qk st0 X0 st' M (o::Os):=by
 have B':=B.quiet q;refine⟨B'.fresh,B'.le,B'.row,B'.nodup,B'.lo,fun p hp=>?_,fun p hp c hc=>?_,List.pairwise_cons.2 ⟨fun p hp c h1 h2=>?_,B.dj⟩,fun p hp c m l hm hc=>?_,B'.J8⟩
 ·rcases List.mem_cons.1 hp with rfl|hp
  ·exact h
  ·exact B'.obj p hp
 ·rcases List.mem_cons.1 hp with rfl|hp
  ·exact⟨(hn c hc).2,.inl (Nat.le_trans B.le (hn c hc).1)⟩
  ·exact B'.hi p hp c hc
 ·have:=(hn c h1).1;have:=(B.hi p hp c h2).1;omega
 ·rcases List.mem_cons.1 hp with rfl|hp
  ·have:=(hn c hc).1;have:=(B.row c m l hm).lt B.fresh;omega
  ·exact B'.djM p hp c m l hm hc
theorem Qk.call(B:Qk st0 X0 st M Os)(hk:Os[k]? =some o)(Q:UR o.F st st')(h:o'.H st'.h.get)(hn:WN st st' o.F o'.F):Qk st0 X0 st' M (Os.set k o'):=by
 have ho:=List.mem_of_getElem? hk;have hlt:=(List.getElem?_eq_some_iff.1 hk).1
 have hne: ∀p∈Os.set k o',p=o'∨ ∃j,Os[j]? =some p∧j≠k:=fun p hp=>by
  obtain⟨j,hj⟩:=List.getElem?_of_mem hp;rw[List.getElem?_set]at hj
  by_cases e:k=j
  ·subst e;rw[if_pos rfl,if_pos hlt]at hj
   injection hj with hj
   exact .inl hj.symm
  ·rw[if_neg e]at hj;exact .inr ⟨j,hj,fun e'=>e e'.symm⟩
 have hdj: ∀j p,Os[j]? =some p→j≠k→ ∀c,p.F c→ ¬o.F c:=fun j p hj e c h1 h2=>by
  have hjl:=(List.getElem?_eq_some_iff.1 hj).1;have hpw:=List.pairwise_iff_getElem.1 B.dj;have ej:Os[j]=p:=(List.getElem?_eq_some_iff.1 hj).2;have ek:Os[k]=o:=(List.getElem?_eq_some_iff.1 hk).2;rcases Nat.lt_or_ge j k with hlt'|hge
  ·exact hpw j k hjl hlt hlt' c (by rw[ej];exact h1) (by rw[ek];exact h2)
  ·exact hpw k j hlt hjl Qe c (by rw[ek];exact h2) (by rw[ej];exact h1)
 refine⟨Q.fresh,Nat.le_trans B.le Q.le,fun c m l hm=>?_,B.nodup,B.lo,fun p hp=>?_,fun p hp c hc=>?_,?_,fun p hp c m l hm hc=>?_,fun c hc hx=>?_⟩
 ·have h1:=B.row c m l hm;exact h1.frame (Q.J8 c (h1.lt B.fresh) (B.djM o ho c m l hm))
 ·rcases hne p hp with rfl|⟨j,hj,e⟩
  ·exact h
  ·exact p.fr _ _ (fun c hc=>Q.J8 c (B.Yw hj c hc) (hdj j p hj e c hc)) (B.at_ hj)
 ·rcases hne p hp with rfl|⟨j,hj,e⟩
  ·obtain⟨h1,h2⟩:=hn c hc;refine⟨h2,?_⟩;rcases h1 with h1|h1
   ·exact B.Ld hk c h1
   ·exact .inl (Nat.le_trans B.le h1)
  ·exact⟨Nat.lt_of_lt_of_le (B.Yw hj c hc) Q.le,B.Ld hj c hc⟩
 ·refine List.pairwise_iff_getElem.2 fun i j hi hj hij c h1 h2=>?_;rw[List.length_set]at hi hj;have hpw:=List.pairwise_iff_getElem.1 B.dj;rw[List.getElem_set]at h1 h2
  by_cases e1:k=i
  ·rw[if_pos e1]at h1;rw[if_neg Qe]at h2;rcases(hn c h1).1 with h3|h3
   ·exact hdj j _ (List.getElem?_eq_getElem hj) Qe c h2 h3
   ·have:=B.Yw (List.getElem?_eq_getElem hj) c h2;omega
  ·rw[if_neg e1]at h1
   by_cases e2:k=j
   ·rw[if_pos e2]at h2;rcases(hn c h2).1 with h3|h3
    ·exact hdj i _ (List.getElem?_eq_getElem hi) Qe c h1 h3
    ·have:=B.Yw (List.getElem?_eq_getElem hi) c h1;omega
   ·rw[if_neg e2]at h2;exact hpw i j hi hj hij c h1 h2
 ·rcases hne p hp with rfl|⟨j,hj,e⟩
  ·rcases(hn c hc).1 with h3|h3
   ·exact B.djM o ho c m l hm h3
   ·have:=(B.row c m l hm).lt B.fresh;omega
  ·exact B.djM p (List.mem_of_getElem? hj) c m l hm hc
 ·rw[Q.J8 c (Nat.lt_of_lt_of_le hc B.le) fun h'=>by
   rcases B.Ld hk c h' with h3|h3
   ·omega
   ·exact hx h3]
  exact B.J8 c hc hx
theorem Qk.view(B:Qk st0 X0 st M Os)(hk:Os[k]? =some o)(h:o'.H st.h.get)(hn: ∀c,o'.F c→o.F c):Qk st0 X0 st M (Os.set k o'):=
 B.call hk ⟨B.fresh,Nat.le_refl _,fun _ _ _=>rfl⟩ h fun c hc=>⟨.inl (hn c hc),B.Yw hk c (hn c hc)⟩
theorem Qk.freeze(B:Qk st0 X0 st (R++M) Os)(h:o.H st.h.get)(hF: ∀c,o.F c→ ∃m l,(c,m,l)∈R):Qk st0 X0 st M (o::Os):=by
 have hnd:=B.nodup;rw[List.map_append]at hnd;refine⟨B.fresh,B.le,fun c m l h=>B.row c m l (List.mem_append_right _ h),(List.nodup_append.1 hnd).2.1,fun c m l h=>B.lo c m l (List.mem_append_right _ h),fun p hp=>?_,fun p hp c hc=>?_,List.pairwise_cons.2 ⟨fun p hp c h1 h2=>?_,B.dj⟩,fun p hp c m l hm hc=>?_,B.J8⟩
 ·rcases List.mem_cons.1 hp with rfl|hp
  ·exact h
  ·exact B.obj p hp
 ·rcases List.mem_cons.1 hp with rfl|hp
  ·obtain⟨m,l,h1⟩:=hF c hc;exact⟨(B.row c m l (List.mem_append_left _ h1)).lt B.fresh,B.lo c m l (List.mem_append_left _ h1)⟩
  ·exact B.hi p hp c hc
 ·obtain⟨m,l,h3⟩:=hF c h1;exact B.djM p hp c m l (List.mem_append_left _ h3) h2
 ·rcases List.mem_cons.1 hp with rfl|hp
  ·obtain⟨m',l',h1⟩:=hF c hc;exact(List.nodup_append.1 hnd).2.2 c (List.mem_map.2 ⟨_,h1,rfl⟩) c (List.mem_map.2 ⟨_,hm,rfl⟩) rfl
  ·exact B.djM p hp c m l (List.mem_append_right _ hm) hc
theorem Qk.join{o1 o2:Ob}(B:Qk st0 X0 st M (o1::o2::Os))(h:o1.H st.h.get→o2.H st.h.get→o.H st.h.get)(hF: ∀c,o.F c→o1.F c∨o2.F c):Qk st0 X0 st M (o::Os):=by
 have hd:=List.pairwise_cons.1 B.dj;have hd2:=List.pairwise_cons.1 hd.2;refine⟨B.fresh,B.le,B.row,B.nodup,B.lo,fun p hp=>?_,fun p hp c hc=>?_,List.pairwise_cons.2 ⟨fun p hp c h1 h2=>?_,hd2.2⟩,fun p hp c m l hm hc=>?_,B.J8⟩
 ·rcases List.mem_cons.1 hp with rfl|hp
  ·exact h (B.obj _ QA) (B.obj _ QA)
  ·exact B.obj p (by simp[hp])
 ·rcases List.mem_cons.1 hp with rfl|hp
  ·rcases hF c hc with h1|h1
   ·exact B.hi o1 QA c h1
   ·exact B.hi o2 QA c h1
  ·exact B.hi p (by simp[hp]) c hc
 ·rcases hF c h1 with h3|h3
  ·exact hd.1 p (by simp[hp]) c h3 h2
  ·exact hd2.1 p hp c h3 h2
 ·rcases List.mem_cons.1 hp with rfl|hp
  ·rcases hF c hc with h1|h1
   ·exact B.djM o1 QA c m l hm h1
   ·exact B.djM o2 QA c m l hm h1
  ·exact B.djM p (by simp[hp]) c m l hm hc
theorem Qk.vh(B:Qk st0 X0 st M (o::Os))(hR: ∀c m l,(c,m,l)∈R→Q4 st.h.get c m l∧o.F c)(hn:(R.map Prod.fst).Nodup)(h:o'.H st.h.get)(hF: ∀c,o'.F c→o.F c)(hd: ∀c m l,(c,m,l)∈R→ ¬o'.F c):Qk st0 X0 st (R++M) (o'::Os):=by
 have hp0:=List.pairwise_cons.1 B.dj;refine⟨B.fresh,B.le,fun c m l hm=>?_,?_,fun c m l hm=>?_,fun p hp=>?_,fun p hp c hc=>?_,List.pairwise_cons.2 ⟨fun p hp c h1 h2=>hp0.1 p hp c (hF c h1) h2,hp0.2⟩,fun p hp c m l hm hc=>?_,B.J8⟩
 ·rcases List.mem_append.1 hm with hm|hm
  ·exact(hR c m l hm).1
  ·exact B.row c m l hm
 ·rw[List.map_append];refine List.nodup_append.2 ⟨hn,B.nodup,fun a ha b hb e=>?_⟩;subst e;obtain⟨⟨c,m,l⟩,h1,rfl⟩:=List.mem_map.1 ha;obtain⟨⟨c',m',l'⟩,h3,h4⟩:=List.mem_map.1 hb;simp only at h4;subst h4;exact B.djM o QA _ m' l' h3 (hR _ m l h1).2
 ·rcases List.mem_append.1 hm with hm|hm
  ·exact(B.hi o QA c (hR c m l hm).2).2
  ·exact B.lo c m l hm
 ·rcases List.mem_cons.1 hp with rfl|hp
  ·exact h
  ·exact B.obj p (by simp[hp])
 ·rcases List.mem_cons.1 hp with rfl|hp
  ·exact B.hi o QA c (hF c hc)
  ·exact B.hi p (by simp[hp]) c hc
 ·rcases List.mem_append.1 hm with hm|hm
  ·rcases List.mem_cons.1 hp with rfl|hp
   ·exact hd c m l hm hc
   ·exact hp0.1 p hp c (hR c m l hm).2 hc
  ·rcases List.mem_cons.1 hp with rfl|hp
   ·exact B.djM o QA c m l hm (hF c hc)
   ·exact B.djM p (by simp[hp]) c m l hm hc
theorem Qk.JO(B:Qk st0 X0 st M Os):UR X0 st0 st:=⟨B.fresh,B.le,B.J8⟩
theorem Qk.qt(B:Qk st0 Xu st M Os):Qt st0 st:=⟨B.fresh,B.le,fun c hc=>B.J8 c hc id⟩
theorem Qk.Y3(B:Qk st0 X0 st M Os)(hf:Qj st0){c m:Nat}{l:List AV}(r:Yp st0.h.get c m l)(hX: ¬X0 c):Yp st.h.get c m l:=by
 have hlt:=r.lt hf;obtain⟨ro,e,vs,ms,h1,h2⟩:=r;exact⟨ro,e,vs,ms,by rw[B.J8 c hlt hX];exact h1,h2⟩
theorem Qk.rd(B:Qk st0 X0 st M Os)(hf:Qj st0){z:Nat}{ls:List (List AV)}{ks:AV}(r:Jk st0.h.get [] z ls ks)(hX: ∀c m o n y,ks=.sl c m o n y→ ¬X0 c):Jk st.h.get [] z ls ks:=
 r.frame fun c m o n y e=>by
  obtain⟨_,cells,h2,_⟩:=r.alive c m o n y e;exact B.J8 c (h2.lt hf) (hX c m o n y e)
theorem Qk.off(B:Qk st0 X0 st M Os)(hk:Os[k]? =some o)(hf:Qj st0){z:Nat}{ls:List (List AV)}{ks:AV}(r:Jk st0.h.get [] z ls ks)(hX: ∀c m o n y,ks=.sl c m o n y→ ¬X0 c): ∀c m p n y,ks=.sl c m p n y→ ¬o.F c:=fun c m p n y e hc=>by
 obtain⟨_,cells,h2,_⟩:=r.alive c m p n y e;have:=h2.lt hf;rcases B.Ld hk c hc with h|h
 ·omega
 ·exact hX c m p n y e h
theorem Qk.Be(B:Qk st0 Xu st M Os)(hf:Qj st0){z:Nat}{ls:List (List AV)}{ks:AV}(r:Jk st0.h.get [] z ls ks):Jk st.h.get [] z ls ks:=B.rd hf r fun _ _ _ _ _ _=>id
end
section
variable {P:Program} {G:Env} {N:Nat} {T:Tr AV} {h0:Hp} {n0 z:Nat} {X:List Nat} {st st':St} {L A B:QP} {ks:AV} {ls:List (List AV)} {ops rest:List Oper} {K:List (Nat×AV)} {R:Tr AV→St→Prop} {d:Nat} {ty:TypeId} {pos:String} {af:Array Edge}
theorem Acc.z0{n0:Nat}(hA:Acc n0 z A ks ls):Acc 0 z A ks ls:=hA.less (Nat.zero_le _)
theorem Mem.xW(hM:Mem h0 n0 X st (L++(A++B)))(hA:Acc 0 z A ks ls)(T:Fu P t e z)(hk:(L++(A++B))[k2]? =some (c2,m2,l2))(hl:l2.length=z)(hb:ls.length+1≤1000000000):
  ∃ks' A' st1,Yg P [t,t] ks (.sl c2 m2 0 1 z) st=some (ks',st1)∧Acc 0 z A' ks' (ls++[l2])∧Mem h0 n0 X st1 (L++(A'++B)):=by
 cases hA with
 |none=>
  obtain⟨ks',A',st1,h1,h2,h3⟩:=hM.YD (A:=[]) .none T hk hl hb;exact⟨ks',A',st1,h1,h2.less (Nat.zero_le _),h3⟩
 |own h3 h4 h5=>
  rename_i c m;obtain⟨m',st1,h6,h7,_⟩:=hM.append T (z2:=z) (J4:=0) (n:=1) (BN L B _) (Af h4) (hM.UY hk).Jf Qe QE hb;refine⟨_,[(c,m',(ls++[l2]).flatten)],st1,h6,?_,?_⟩
  ·have:=Acc.own (n0:=0) (c:=c) (m:=m') (ls:=ls++[l2]) (z:=z) (Nat.zero_le _) (fun cs hc=>by
    rcases List.mem_append.1 hc with hc|hc
    ·exact h4 cs hc
    ·rw[List.mem_singleton.1 hc];exact hl) (by simpa using hb)
   rw[List.length_append]at this;exact this
  ·rw[Bb,List.drop_zero,List.take_of_length_le Qe]at h7;rw[List.flatten_append,show [l2].flatten=l2 by simp];exact h7
theorem Jg{x y:Operand}(hK:QZ K T)(hM:Mem h0 n0 X st (L++(A++B)))(hA:Acc 0 z A ks ls)(S:Fu P t e z)(hx:Jb G K x=some ks)(hy:Jb G K y=some (.sl c2 m2 0 1 z))(hk:(L++(A++B))[k2]? =some (c2,m2,l2))(hl:l2.length=z)(hb:ls.length+1≤1000000000)(hN:Nat.ble (d+1) N=true)
  (hn: ∀(ks':AV) A' T' st',QZ ((d,ks')::K) T'→Acc 0 z A' ks' (ls++[l2])→Mem h0 n0 X st' (L++(A'++B))→WR P G N ops rest R T' st'):WR P G N ops (⟨some d,.call {callee:=.builtin .append,args:= #[x,y],argTypes:= #[t,t]},ty,pos,af,none⟩::rest) R T st:=by
 obtain⟨ks',A',st1,h1,h2,h3⟩:=hM.xW hA S hk hl hb;exact Es hK (ZO rfl hx hy h1) (Nat.le_of_ble_eq_true hN) fun T' hT'=>hn ks' A' T' st1 hT' h2 h3
theorem X8{sn:List St}{i:Nat}{rr:List (Nat×Nat)}{x y:Operand}(ho:ops[i]? =some ⟨some d,.call {callee:=.builtin .append,args:= #[x,y],argTypes:= #[t,t]},ty,pos,af,none⟩)(hK:QZ K T)(hM:Mem h0 n0 X st (L++(A++B)))(hA:Acc 0 z A ks ls)(S:Fu P t e z)(hx:Jb G K x=some ks)(hy:Jb G K y=some (.sl c2 m2 0 1 z))(hk:(L++(A++B))[k2]? =some (c2,m2,l2))(hl:l2.length=z)(hb:ls.length+1≤1000000000)(hN:Nat.ble (d+1) N=true)
  (hn: ∀(ks':AV) A' T' st',QZ ((d,ks')::K) T'→Acc 0 z A' ks' (ls++[l2])→Mem h0 n0 X st' (L++(A'++B))→WD P G N ops (rr.map (Yo ops)) R T' st' (st'::sn)):WD P G N ops (((i,0)::rr).map (Yo ops)) R T st sn:=by
 obtain⟨ks',A',st1,h1,h2,h3⟩:=hM.xW hA S hk hl hb;exact Lq ho hK (ZO rfl hx hy h1) rfl (Nat.le_of_ble_eq_true hN) fun T' hT'=>hn ks' A' T' st1 hT' h2 h3
end
end Go.Proofs.YtiknomepbklibaaGreatDoor
end
