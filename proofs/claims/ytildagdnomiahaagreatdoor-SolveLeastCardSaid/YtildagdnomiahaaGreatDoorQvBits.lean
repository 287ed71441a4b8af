/-
  What hangs on letters, in memory.
-/
import Derived.Test.YtildagdnomiahaaGreatDoorQvBdP
set_option linter.unusedVariables false
namespace Go.Proofs.YtildagdnomiahaaGreatDoor
open Go Go.RowKit
section
set_option maxRecDepth 100000

def Eh:Bn→AV
 |.leaf v=>.ifc 354 (.agg [.int .i64 v])
 |.fork t l h=>.ifc 356 (.agg [.int .i64 (t:Nat),.int .i64 (l:Nat),.int .i64 (h:Nat)])
theorem Ph(n:Bn):Qw (Eh n)=true:=by cases n<;>rfl
theorem Bi(u:AV):IM Tryz.prog 354 u=some (.ifc 354 u):=by kernel_rfl
theorem Bj(u:AV):IM Tryz.prog 356 u=some (.ifc 356 u):=by kernel_rfl
theorem zo(u:AV):IX Tryz.prog (.ifc 356 u) 356 true=some (.tup [u,.bool true]):=by kernel_rfl
theorem zn(u:AV):IX Tryz.prog (.ifc 354 u) 356 true=some (.tup [.agg [.int .i64 0,.int .i64 0,.int .i64 0],.bool false]):=by kernel_rfl
theorem xZ:Vw Tryz.prog 354 "sibyl/bdd.at" =some 379:=by kernel_rfl
theorem va:Vw Tryz.prog 356 "sibyl/bdd.at" =some 380:=by kernel_rfl
theorem Nn(a b:Int):Yb Tryz.prog 354 [.int .i64 a] [.int .i64 b]=Qj (Fu a b) (some true) (some false):=by kernel_rfl
theorem No(a b c x y z:Int):Yb Tryz.prog 356 [.int .i64 a,.int .i64 b,.int .i64 c] [.int .i64 x,.int .i64 y,.int .i64 z]=Qj (Fu a x) (Qj (Fu b y) (Qj (Fu c z) (some true) (some false)) (some false)) (some false):=by kernel_rfl
theorem Rx(l:List AV):IP Tryz.prog (.ifc 354 (.agg l))=fO (Yb Tryz.prog 354 l l):=by kernel_rfl
theorem Ry(l:List AV):IP Tryz.prog (.ifc 356 (.agg l))=fO (Yb Tryz.prog 356 l l):=by kernel_rfl
theorem uU(a b:List AV):AS Tryz.prog (.ifc 354 (.agg a)) (.ifc 354 (.agg b))=Wo (Yb Tryz.prog 354 a b) a b:=by kernel_rfl
theorem uX(a b:List AV):AS Tryz.prog (.ifc 356 (.agg a)) (.ifc 356 (.agg b))=Wo (Yb Tryz.prog 356 a b) a b:=by kernel_rfl
theorem uV(a b:List AV):AS Tryz.prog (.ifc 354 (.agg a)) (.ifc 356 (.agg b))=some false:=by kernel_rfl
theorem uW(a b:List AV):AS Tryz.prog (.ifc 356 (.agg a)) (.ifc 354 (.agg b))=some false:=by kernel_rfl
theorem qD: ∃ms,Tryz.prog.underlying 328=some (.interface ms):=⟨_,Tryz.underlying328⟩
theorem zU:Tryz.prog.underlying 255=some (.map 328 3):=by kernel_rfl
theorem uF:Vo Tryz.prog 255 Eh (.int .i64 0):=by
 obtain⟨ms,hu⟩:=qD
 have eb: ∀(a:Int),Fu a a=true:=fun a=>by rw[Yp];exact decide_eq_true rfl
 refine⟨328,3,.interface ms,zU,hu,by kernel_rfl,fun a=>?_,fun a i=>rfl,fun a b v n es i=>?_⟩
 ·cases a with
  |leaf v=>
   show IP Tryz.prog (.ifc 354 (.agg [.int .i64 v]))=true;rw[Rx,Nn,eb];rfl
  |fork t l h=>
   show IP Tryz.prog (.ifc 356 (.agg [.int .i64 (t:Nat),.int .i64 (l:Nat),.int .i64 (h:Nat)]))=true;rw[Ry,No,eb,eb,eb];rfl
 ·have e:UH Tryz.prog 328 (.interface ms) (Eh a) ((Eh b,v,n)::es) i=ob (AS Tryz.prog (Eh a) (Eh b)) fun q=>Qj q (some (some (i,v))) (UH Tryz.prog 328 (.interface ms) (Eh a) es (i+1)):=by
   exact WO _ _ _ _ _ _ _
  have e2:(a=b→AS Tryz.prog (Eh a) (Eh b)=some true)∧(a≠b→AS Tryz.prog (Eh a) (Eh b)=some false):=by
   cases a with
   |leaf x=>
    cases b with
    |leaf y=>
     rw[Eh,Eh,uU,Nn,Yp]
     by_cases h:x=y
     ·subst h;exact⟨fun _=>by simp[Qv,Wo,O5,N7,Wn,eb,Q7],fun h=>absurd rfl h⟩
     ·exact⟨fun e=>by injection e with e;exact absurd e h,fun _=>by simp[h,Qq,Wo]⟩
    |fork t l h'=>rw[Eh,Eh,uV];exact⟨fun e=>(by cases e),fun _=>rfl⟩
   |fork t l h'=>
    cases b with
    |leaf y=>rw[Eh,Eh,uW];exact⟨fun e=>(by cases e),fun _=>rfl⟩
    |fork t2 l2 h2=>
     rw[Eh,Eh,uX,No,Yp,Yp,Yp]
     by_cases h1:t=t2
     ·by_cases h3:l=l2
      ·by_cases h4:h'=h2
       ·subst h1 h3 h4;exact⟨fun _=>by simp[Qv,Wo,O5,N7,Wn,eb,Q7],fun h=>absurd rfl h⟩
       ·exact⟨fun e=>by injection e with _ _ e;exact absurd e h4,fun _=>by simp[h1,h3,show¬((h':Int)=(h2:Int)) by omega,Qv,Qq,Wo]⟩
      ·exact⟨fun e=>by injection e with _ e;exact absurd e h3,fun _=>by simp[h1,show¬((l:Int)=(l2:Int)) by omega,Qv,Qq,Wo]⟩
     ·exact⟨fun e=>by injection e with e;exact absurd e h1,fun _=>by simp[show¬((t:Int)=(t2:Int)) by omega,Qq,Wo]⟩
  rw[e];refine⟨fun h=>?_,fun h=>?_⟩
  ·rw[e2.1 h];rfl
  ·rw[e2.2 h];rfl
def Vg:Nat→Uf→List (Bn×AV)
 |_,[]=>[]
 |j,n::S=>(n,.int .i64 (j:Nat))::Vg (j+1) S
theorem Gk: ∀(j:Nat) (S:Uf) (n:Bn),Vg j (S++[n])=Vg j S++[(n,.int .i64 (j+S.length:Nat))]
 |j,[],n=>by simp[Vg]
 |j,x::S,n=>by
  rw[List.cons_append,Vg,Vg,Gk (j+1) S n,List.cons_append,List.length_cons,show j+1+S.length=j+(S.length+1) by omega]
theorem DN: ∀{j:Nat} {S:Uf} {n:Bn} {v:AV},(n,v)∈Vg j S→ ∃i:Nat,S[i]? =some n∧v=.int .i64 (j+i:Nat)
 |j,[],n,v,h=>by cases h
 |j,x::S,n,v,h=>by
  rcases List.mem_cons.1 h with e|h
  ·injection e with e1 e2
   subst e1 e2;exact⟨0,rfl,rfl⟩
  ·obtain⟨i,h1,h2⟩:=DN h;exact⟨i+1,h1,by rw[h2];congr 2;omega⟩
theorem De: ∀{j:Nat} {S:Uf} {n:Bn},n∈S→ ∃v,(n,v)∈Vg j S
 |j,[],n,h=>by cases h
 |j,x::S,n,h=>by
  rcases List.mem_cons.1 h with rfl|h
  ·exact⟨_,List.mem_cons_self ..⟩
  ·obtain⟨v,hv⟩:=De (j:=j+1) h;exact⟨v,List.mem_cons_of_mem _ hv⟩
theorem vg{S:Uf}{n:Bn}(h:U9 (Vg 0 S) n=none):n∉S:=fun hm=>by
 obtain⟨v,hv⟩:=De (j:=0) hm;exact LN h v hv
theorem vf{S:Uf}{n:Bn}{v:AV}(h:U9 (Vg 0 S) n=some v): ∃i:Nat,S[i]? =some n∧v=.int .i64 (i:Nat):=by
 obtain⟨i,h1,h2⟩:=DN (KK h);exact⟨i,h1,by rw[h2,Nat.zero_add]⟩
def Xl(R:QP):Ob:=⟨fun c=> ∃m l,(c,m,l)∈R,fun h=> ∀c m l,(c,m,l)∈R→Qu h c m l,fun h h' e H c m l hm=>(H c m l hm).frame (e c ⟨m,l,hm⟩)⟩
def EU(h:Hp)(F:Fp)(sp T:Nat)(S:Uf):Prop:=
 ∃ks cm A,Qu h sp 0 [.int .i64 (T:Nat),ks,.mp cm]∧F sp∧F cm∧sp≠cm∧(VB cm Eh (Vg 0 S)).H h∧Zl A ks (S.map Eh)∧ ∀c m l,(c,m,l)∈A→Qu h c m l∧F c∧c≠sp∧c≠cm
theorem EU.frame{h h':Hp}{F:Fp}{sp T:Nat}{S:Uf}(e: ∀c,F c→h' c=h c)(H:EU h F sp T S):EU h' F sp T S:=by
 obtain⟨ks,cm,A,h1,h2,h3,h4,h5,h6,h7⟩:=H;exact⟨ks,cm,A,h1.frame (e sp h2),h2,h3,h4,(VB cm Eh (Vg 0 S)).fr _ _ (fun c hc=>by have hc:c=cm:=hc;rw[hc];exact e cm h3) h5,h6,fun c m l hm=>⟨(h7 c m l hm).1.frame (e c (h7 c m l hm).2.1),(h7 c m l hm).2⟩⟩
def Xi(F:Fp)(sp T:Nat)(S:Uf):Ob:=⟨F,fun h=>EU h F sp T S,fun _ _ e H=>H.frame e⟩
theorem EU.rd{h:Hp}{F:Fp}{sp T:Nat}{S:Uf}(H:EU h F sp T S): ∃ks cm,Qu h sp 0 [.int .i64 (T:Nat),ks,.mp cm]∧Jg h [] 1 (S.map fun n=>[Eh n]) ks∧J8 ks=some S.length∧S.length≤1000000000:=by
 obtain⟨ks,cm,A,h1,h2,h3,h4,h5,h6,h7⟩:=H;have hr:=h6.rd fun c m l hm=>(h7 c m l hm).1;have hl:=h6.len;rw[List.length_map]at hl;rw[List.map_map]at hr;refine⟨ks,cm,h1,hr,hl,?_⟩;generalize hv:S.map Eh=vs at h6;have hl2:=congrArg List.length hv;rw[List.length_map]at hl2
 cases h6 with
 |none=>rw[hl2];simp
 |own hb=>rw[hl2];exact hb
section
variable {st0 st:St} {X0:Fp} {M:QP} {Os:List Ob} {F:Fp} {sp T cm:Nat} {S:Uf} {ks:AV} {A:QP}
theorem Ql.iO(B:Ql st0 X0 st M (Xi F sp T S::Os)): ∃ks cm A,Ql st0 X0 st (((sp,0,[.int .i64 (T:Nat),ks,.mp cm])::A)++M) (VB cm Eh (Vg 0 S)::Os)∧Zl A ks (S.map Eh):=by
 obtain⟨ks,cm,A,h1,h2,h3,h4,h5,h6,h7⟩:=B.at_ (k:=0) rfl;refine⟨ks,cm,A,B.ib (fun c m l hm=>?_) ?_ h5 (fun c hc=>by have hc:c=cm:=hc;rw[hc];exact h3) fun c m l hm hc=>?_,h6⟩
 ·rcases List.mem_cons.1 hm with e|hm
  ·injection e with e1 e;injection e with e2 e3;subst e1 e2 e3
   exact⟨h1,h2⟩
  ·exact⟨(h7 c m l hm).1,(h7 c m l hm).2.1⟩
 ·rw[List.map_cons];refine List.nodup_cons.2 ⟨fun hm=>?_,h6.nodup⟩;obtain⟨⟨c,m,l⟩,e1,e2⟩:=List.mem_map.1 hm;exact(h7 c m l e1).2.2.1 e2
 ·have hc:c=cm:=hc;subst hc;rcases List.mem_cons.1 hm with e|hm
  ·injection e with e1 e;exact h4 e1.symm
  ·exact(h7 _ m l hm).2.2.2 rfl
theorem Ql.RM(B:Ql st0 X0 st (((sp,0,[.int .i64 (T:Nat),ks,.mp cm])::A)++M) (VB cm Eh (Vg 0 S)::Os))(hA:Zl A ks (S.map Eh)): ∃F,Ql st0 X0 st M (Xi F sp T S::Os):=by
 have hnd:=B.nodup;rw[List.cons_append,List.map_cons]at hnd;have hn1:=(List.nodup_cons.1 hnd).1;have hdj: ∀c m l,(c,m,l)∈((sp,0,[.int .i64 (T:Nat),ks,.mp cm])::A)++M→c≠cm:=fun c m l hm e=>B.djM (VB cm Eh (Vg 0 S)) Qx c m l hm e;have B1:=B.freeze (o:=Xl ((sp,0,[.int .i64 (T:Nat),ks,.mp cm])::A)) (fun c m l hm=>B.row c m l (List.mem_append_left _ hm)) (fun c hc=>hc);refine⟨fun c=>(Xl ((sp,0,[.int .i64 (T:Nat),ks,.mp cm])::A)).F c∨c=cm,B1.join (fun h1 h2=>?_) fun c hc=>hc⟩;refine⟨ks,cm,A,h1 _ _ _ Qx,.inl ⟨_,_,List.mem_cons_self ..⟩,.inr rfl,fun e=>?_,h2,hA,fun c m l hm=>⟨h1 _ _ _ (List.mem_cons_of_mem _ hm),.inl ⟨m,l,List.mem_cons_of_mem _ hm⟩,fun e=>?_,fun e=>?_⟩⟩
 ·exact hdj sp _ _ (List.mem_cons_self ..) e
 ·subst e;exact hn1 (List.mem_map.2 ⟨(_,m,l),List.mem_append_left _ hm,rfl⟩)
 ·exact hdj c m l (by simp[hm]) e
end
def X2(st st':St)(F:Fp)(sp T:Nat)(S':Uf):Prop:= ∃F',EU st'.h.get F' sp T S'∧EV st st' F F'∧YA F st st'
theorem Ql.L7{st0 st:St}{F F':Fp}{M:QP}{Os:List Ob}{sp T:Nat}{S':Uf}(B:Ql st0 F st M (Xi F' sp T S'::Os)):X2 st0 st F sp T S':=
 ⟨F',B.at_ (k:=0) rfl,fun c hc=>⟨(B.Rm (k:=0) rfl c hc).symm,B.VM (k:=0) rfl c hc⟩,B.U7⟩
theorem Ql.V2{st0 st st':St}{X0 F:Fp}{M:QP}{Os:List Ob}{sp T:Nat}{S S':Uf}(B:Ql st0 X0 st M (Xi F sp T S::Os))(h:X2 st st' F sp T S'): ∃F',Ql st0 X0 st' M (Xi F' sp T S'::Os):=by
 obtain⟨F',h1,h2,h3⟩:=h;exact⟨F',B.call (k:=0) rfl h3 (o':=Xi F' sp T S') h1 h2⟩
theorem Cd.app{S:Uf}{n:Bn}(h:n∉S):Cd S n S.length (S++[n]):=.inr ⟨h,rfl,rfl⟩
theorem Bm(S:Uf)(n:Bn):S.map Eh++[Eh n]=(S++[n]).map Eh:=by simp
end
section

theorem Bd(n:Nat):((2^n:Nat):Int)=(2:Int)^n:=by rw[Int.natCast_pow];rfl
theorem CV{n:Nat}(h:n≤62):2^n≤4611686018427387904:=Nat.le_trans (Nat.pow_le_pow_right Q9 h) Q9
theorem ZX{P:Program}{G:Env}{K:List (Nat×AV)}{st:St}{t yt:TypeId}{x y:Operand}{k:IntKind}{n:Nat}(hx:QG G K x=some (.int .i64 1))(hy:QG G K y=some (.int k ((n:Nat):Int)))(h:n≤62):Us P G K (.binOp .shl t x y yt) st (.int .i64 (2^n:Nat)) st:=
 UF hx hy (by
  have hp:((2^n:Nat):Int)≤4611686018427387904:=Int.ofNat_le.2 (CV h);have hp0:(0:Int)≤((2^n:Nat):Int):=Int.natCast_nonneg _;show Qj (NK ((n:Nat):Int) 0) none (X8 (X3 .i64 (1 *2^(min ((n:Nat):Int).toNat 64))) fun z=>some (AV.int .i64 z))=_
  rw[YE,decide_eq_false Qd,UP,Ug,Int.toNat_natCast,Nat.min_eq_left Qd,Int.one_mul,←Bd,wrap64 (Int.le_trans Q9 hp0) (Int.le_trans hp Q9)];rfl)
end
section
variable {a b:Nat}

section
variable {P:Program} {G:Env} {K:List (Nat×AV)} {st:St} {t yt:TypeId} {x y:Operand}
theorem BN(ha:a≤9223372036854775807):(BitVec.ofInt 64 ((a:Nat):Int)).toNat=a:=by
 rw[BitVec.ofInt_natCast,BitVec.toNat_ofNat];exact Nat.mod_eq_of_lt Qd
theorem S7(hx:QG G K x=some (.int .i64 (a:Nat)))(hy:QG G K y=some (.int .i64 (b:Nat)))(ha:a≤9223372036854775807)(hb:b≤9223372036854775807):Us P G K (.binOp .and t x y yt) st (.int .i64 (a&&&b:Nat)) st:=
 UF hx hy (by
  rw[Vj Q9 Q9];show X8 (IntKind.i64.wrap (((BitVec.ofInt 64 ((a:Nat):Int)&&&BitVec.ofInt 64 ((b:Nat):Int)).toNat:Nat):Int)) (fun z=>some (AV.int .i64 z))=_;have h:a&&&b≤a:=Nat.and_le_left
  rw[BitVec.toNat_and,BN ha,BN hb,UP,wrap64 Qd Qd])
theorem WH(hx:QG G K x=some (.int .i64 (a:Nat)))(hy:QG G K y=some (.int .i64 1))(ha:a≤9223372036854775807):Us P G K (.binOp .and t x y yt) st (.int .i64 (a % 2:Nat)) st:=by
 have:=S7 (P:=P) (st:=st) (t:=t) (yt:=yt) (b:=1) hx hy ha Q9;rw[Nat.and_one_is_mod]at this;exact this
theorem xL(ha:a≤9223372036854775807)(hb:b≤9223372036854775807):a|||b≤9223372036854775807:=by
 have:=Nat.or_lt_two_pow (n:=63) (show a<2^63 by omega) (show b<2^63 by omega);omega
theorem eM(hx:QG G K x=some (.int .i64 (a:Nat)))(hy:QG G K y=some (.int .i64 (b:Nat)))(ha:a≤9223372036854775807)(hb:b≤9223372036854775807):Us P G K (.binOp .or t x y yt) st (.int .i64 (a|||b:Nat)) st:=
 UF hx hy (by
  rw[Vj Q9 Q9];show X8 (IntKind.i64.wrap (((BitVec.ofInt 64 ((a:Nat):Int)|||BitVec.ofInt 64 ((b:Nat):Int)).toNat:Nat):Int)) (fun z=>some (AV.int .i64 z))=_;have h:=xL ha hb
  rw[BitVec.toNat_or,BN ha,BN hb,UP,wrap64 Qd Qd])
theorem WG{k:IntKind}{n:Nat}(hx:QG G K x=some (.int .i64 (a:Nat)))(hy:QG G K y=some (.int k ((n:Nat):Int)))(hn:n≤62):Us P G K (.binOp .shr t x y yt) st (.int .i64 (a/2^n:Nat)) st:=
 UF hx hy (by
  show Qj (NK ((n:Nat):Int) 0) none (X8 (((a:Nat):Int).fdiv (2^(min ((n:Nat):Int).toNat 64))) fun z=>some (AV.int .i64 z))=_
  rw[YE,decide_eq_false Qd,UP,Int.toNat_natCast,Nat.min_eq_left Qd,←Bd,←Int.ofNat_fdiv];rfl)
theorem xB{k:IntKind}{n:Nat}(hx:QG G K x=some (.int .i64 (a:Nat)))(hy:QG G K y=some (.int k ((n:Nat):Int)))(hn:n≤62)(hb:a *2^n≤9223372036854775807):Us P G K (.binOp .shl t x y yt) st (.int .i64 (a *2^n:Nat)) st:=
 UF hx hy (by
  show Qj (NK ((n:Nat):Int) 0) none (X8 (X3 .i64 (((a:Nat):Int) *2^(min ((n:Nat):Int).toNat 64))) fun z=>some (AV.int .i64 z))=_
  rw[YE,decide_eq_false Qd,UP,Ug,Int.toNat_natCast,Nat.min_eq_left Qd,←Bd,←Int.natCast_mul,wrap64 Qd Qd];rfl)
theorem Tm(c t:Nat):(((c/2^t % 2:Nat):Int)=1)↔c.testBit t=true:=by
 rw[Nat.testBit_eq_decide_div_mod_eq,decide_eq_true_eq];omega
end
end
end Go.Proofs.YtildagdnomiahaaGreatDoor
