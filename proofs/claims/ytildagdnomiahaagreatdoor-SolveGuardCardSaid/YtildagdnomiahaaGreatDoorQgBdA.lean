/-
  What hangs on letters, in memory.
-/
import Derived.Test.YtildagdnomiahaaGreatDoorQgBdP
import Derived.Test.YtildagdnomiahaaGreatDoorQgPlq
set_option maxRecDepth 100000
set_option linter.unnecessarySimpa false
set_option linter.unusedSimpArgs false
set_option linter.unusedVariables false
namespace Go.Proofs.YtildagdnomiahaaGreatDoor
open Go Go.RowKit
section

def Wv:Bn→AV
 |.leaf v=>.ifc 354 (.agg [.int .i64 v])
 |.fork t l h=>.ifc 356 (.agg [.int .i64 (t:Nat),.int .i64 (l:Nat),.int .i64 (h:Nat)])
theorem C8(n:Bn):Qu (Wv n)=true:=by cases n<;>rfl
theorem OO(u:AV):HD Tryz.prog 354 u=some (.ifc 354 u):=by kernel_rfl
theorem OP(u:AV):HD Tryz.prog 356 u=some (.ifc 356 u):=by kernel_rfl
theorem jq(u:AV):HP Tryz.prog (.ifc 356 u) 356 true=some (.tup [u,.bool true]):=by kernel_rfl
theorem jo(u:AV):HP Tryz.prog (.ifc 354 u) 356 true=some (.tup [.agg [.int .i64 0,.int .i64 0,.int .i64 0],.bool false]):=by kernel_rfl
theorem uV:WB Tryz.prog 354 "sibyl/bdd.at" =some 379:=by kernel_rfl
theorem uW:WB Tryz.prog 356 "sibyl/bdd.at" =some 380:=by kernel_rfl
theorem KY(a b:Int):UK Tryz.prog 354 [.int .i64 a] [.int .i64 b]=Ql (Fw a b) (some true) (some false):=by kernel_rfl
theorem KZ(a b c x y z:Int):UK Tryz.prog 356 [.int .i64 a,.int .i64 b,.int .i64 c] [.int .i64 x,.int .i64 y,.int .i64 z]=Ql (Fw a x) (Ql (Fw b y) (Ql (Fw c z) (some true) (some false)) (some false)) (some false):=by kernel_rfl
theorem DO(l:List AV):HF Tryz.prog (.ifc 354 (.agg l))=vv (UK Tryz.prog 354 l l):=by kernel_rfl
theorem DP(l:List AV):HF Tryz.prog (.ifc 356 (.agg l))=vv (UK Tryz.prog 356 l l):=by kernel_rfl
theorem qi(a b:List AV):EN Tryz.prog (.ifc 354 (.agg a)) (.ifc 354 (.agg b))=VD (UK Tryz.prog 354 a b) a b:=by kernel_rfl
theorem ql(a b:List AV):EN Tryz.prog (.ifc 356 (.agg a)) (.ifc 356 (.agg b))=VD (UK Tryz.prog 356 a b) a b:=by kernel_rfl
theorem qj(a b:List AV):EN Tryz.prog (.ifc 354 (.agg a)) (.ifc 356 (.agg b))=some false:=by kernel_rfl
theorem qk(a b:List AV):EN Tryz.prog (.ifc 356 (.agg a)) (.ifc 354 (.agg b))=some false:=by kernel_rfl
theorem T9: ∃ms,Tryz.prog.underlying 328=some (.interface ms):=⟨_,Tryz.underlying328⟩
theorem jU:Tryz.prog.underlying 255=some (.map 328 3):=by kernel_rfl
theorem MY:XF Tryz.prog 255 Wv (.int .i64 0):=by
 obtain⟨ms,hu⟩:=T9
 have eb: ∀(a:Int),Fw a a=true:=fun a=>by rw[Yb];exact decide_eq_true rfl
 refine⟨328,3,.interface ms,jU,hu,by kernel_rfl,fun a=>?_,fun a i=>rfl,fun a b v n es i=>?_⟩
 ·cases a with
  |leaf v=>
   show HF Tryz.prog (.ifc 354 (.agg [.int .i64 v]))=true;rw[DO,KY,eb];rfl
  |fork t l h=>
   show HF Tryz.prog (.ifc 356 (.agg [.int .i64 (t:Nat),.int .i64 (l:Nat),.int .i64 (h:Nat)]))=true;rw[DP,KZ,eb,eb,eb];rfl
 ·have e:U4 Tryz.prog 328 (.interface ms) (Wv a) ((Wv b,v,n)::es) i=ob (EN Tryz.prog (Wv a) (Wv b)) fun q=>Ql q (some (some (i,v))) (U4 Tryz.prog 328 (.interface ms) (Wv a) es (i+1)):=by
   exact Wd _ _ _ _ _ _ _
  have e2:(a=b→EN Tryz.prog (Wv a) (Wv b)=some true)∧(a≠b→EN Tryz.prog (Wv a) (Wv b)=some false):=by
   cases a with
   |leaf x=>
    cases b with
    |leaf y=>
     rw[Wv,Wv,qi,KY,Yb]
     by_cases h:x=y
     ·subst h;exact⟨fun _=>by simp[Qv,VD,Nt,Lu,VC,eb,Q7],fun h=>absurd rfl h⟩
     ·exact⟨fun e=>by injection e with e;exact absurd e h,fun _=>by simp[h,Qr,VD]⟩
    |fork t l h'=>rw[Wv,Wv,qj];exact⟨fun e=>(by cases e),fun _=>rfl⟩
   |fork t l h'=>
    cases b with
    |leaf y=>rw[Wv,Wv,qk];exact⟨fun e=>(by cases e),fun _=>rfl⟩
    |fork t2 l2 h2=>
     rw[Wv,Wv,ql,KZ,Yb,Yb,Yb]
     by_cases h1:t=t2
     ·by_cases h3:l=l2
      ·by_cases h4:h'=h2
       ·subst h1 h3 h4;exact⟨fun _=>by simp[Qv,VD,Nt,Lu,VC,eb,Q7],fun h=>absurd rfl h⟩
       ·exact⟨fun e=>by injection e with _ _ e;exact absurd e h4,fun _=>by simp[h1,h3,show¬((h':Int)=(h2:Int)) by omega,Qv,Qr,VD]⟩
      ·exact⟨fun e=>by injection e with _ e;exact absurd e h3,fun _=>by simp[h1,show¬((l:Int)=(l2:Int)) by omega,Qv,Qr,VD]⟩
     ·exact⟨fun e=>by injection e with e;exact absurd e h1,fun _=>by simp[show¬((t:Int)=(t2:Int)) by omega,Qr,VD]⟩
  rw[e];refine⟨fun h=>?_,fun h=>?_⟩
  ·rw[e2.1 h];rfl
  ·rw[e2.2 h];rfl
def X8:Nat→JW→List (Bn×AV)
 |_,[]=>[]
 |j,n::S=>(n,.int .i64 (j:Nat))::X8 (j+1) S
theorem NR: ∀(j:Nat) (S:JW) (n:Bn),X8 j (S++[n])=X8 j S++[(n,.int .i64 (j+S.length:Nat))]
 |j,[],n=>by simp[X8]
 |j,x::S,n=>by
  rw[List.cons_append,X8,X8,NR (j+1) S n,List.cons_append,List.length_cons,show j+1+S.length=j+(S.length+1) by omega]
theorem Ck: ∀{j:Nat} {S:JW} {n:Bn} {v:AV},(n,v)∈X8 j S→ ∃i:Nat,S[i]? =some n∧v=.int .i64 (j+i:Nat)
 |j,[],n,v,h=>by cases h
 |j,x::S,n,v,h=>by
  rcases List.mem_cons.1 h with e|h
  ·injection e with e1 e2
   subst e1 e2;exact⟨0,rfl,rfl⟩
  ·obtain⟨i,h1,h2⟩:=Ck h;exact⟨i+1,h1,by rw[h2];congr 2;omega⟩
theorem By: ∀{j:Nat} {S:JW} {n:Bn},n∈S→ ∃v,(n,v)∈X8 j S
 |j,[],n,h=>by cases h
 |j,x::S,n,h=>by
  rcases List.mem_cons.1 h with rfl|h
  ·exact⟨_,List.mem_cons_self ..⟩
  ·obtain⟨v,hv⟩:=By (j:=j+1) h;exact⟨v,List.mem_cons_of_mem _ hv⟩
theorem yc{S:JW}{n:Bn}(h:Uz (X8 0 S) n=none):n∉S:=fun hm=>by
 obtain⟨v,hv⟩:=By (j:=0) hm;exact Kz h v hv
theorem yb{S:JW}{n:Bn}{v:AV}(h:Uz (X8 0 S) n=some v): ∃i:Nat,S[i]? =some n∧v=.int .i64 (i:Nat):=by
 obtain⟨i,h1,h2⟩:=Ck (I5 h);exact⟨i,h1,by rw[h2,Nat.zero_add]⟩
def ZG(R:QK):Ob:=⟨fun c=> ∃m l,(c,m,l)∈R,fun h=> ∀c m l,(c,m,l)∈R→Qw h c m l,fun h h' e H c m l hm=>(H c m l hm).frame (e c ⟨m,l,hm⟩)⟩
def Ef(h:Hp)(F:Fp)(sp T:Nat)(S:JW):Prop:=
 ∃ks cm A,Qw h sp 0 [.int .i64 (T:Nat),ks,.mp cm]∧F sp∧F cm∧sp≠cm∧(XZ cm Wv (X8 0 S)).H h∧YJ A ks (S.map Wv)∧ ∀c m l,(c,m,l)∈A→Qw h c m l∧F c∧c≠sp∧c≠cm
theorem Ef.frame{h h':Hp}{F:Fp}{sp T:Nat}{S:JW}(e: ∀c,F c→h' c=h c)(H:Ef h F sp T S):Ef h' F sp T S:=by
 obtain⟨ks,cm,A,h1,h2,h3,h4,h5,h6,h7⟩:=H;exact⟨ks,cm,A,h1.frame (e sp h2),h2,h3,h4,(XZ cm Wv (X8 0 S)).fr _ _ (fun c hc=>by have hc:c=cm:=hc;rw[hc];exact e cm h3) h5,h6,fun c m l hm=>⟨(h7 c m l hm).1.frame (e c (h7 c m l hm).2.1),(h7 c m l hm).2⟩⟩
def ZC(F:Fp)(sp T:Nat)(S:JW):Ob:=⟨F,fun h=>Ef h F sp T S,fun _ _ e H=>H.frame e⟩
theorem Ef.rd{h:Hp}{F:Fp}{sp T:Nat}{S:JW}(H:Ef h F sp T S): ∃ks cm,Qw h sp 0 [.int .i64 (T:Nat),ks,.mp cm]∧Je h [] 1 (S.map fun n=>[Wv n]) ks∧JU ks=some S.length∧S.length≤1000000000:=by
 obtain⟨ks,cm,A,h1,h2,h3,h4,h5,h6,h7⟩:=H;have hr:=h6.rd fun c m l hm=>(h7 c m l hm).1;have hl:=h6.len;rw[List.length_map]at hl;rw[List.map_map]at hr;refine⟨ks,cm,h1,hr,hl,?_⟩;generalize hv:S.map Wv=vs at h6;have hl2:=congrArg List.length hv;rw[List.length_map]at hl2
 cases h6 with
 |none=>rw[hl2];simp
 |own hb=>rw[hl2];exact hb
section
variable {st0 st:St} {X0:Fp} {M:QK} {Os:List Ob} {F:Fp} {sp T cm:Nat} {S:JW} {ks:AV} {A:QK}
theorem Qj.wg(B:Qj st0 X0 st M (ZC F sp T S::Os)): ∃ks cm A,Qj st0 X0 st (((sp,0,[.int .i64 (T:Nat),ks,.mp cm])::A)++M) (XZ cm Wv (X8 0 S)::Os)∧YJ A ks (S.map Wv):=by
 obtain⟨ks,cm,A,h1,h2,h3,h4,h5,h6,h7⟩:=B.at_ (k:=0) rfl;refine⟨ks,cm,A,B.vD (fun c m l hm=>?_) ?_ h5 (fun c hc=>by have hc:c=cm:=hc;rw[hc];exact h3) fun c m l hm hc=>?_,h6⟩
 ·rcases List.mem_cons.1 hm with e|hm
  ·injection e with e1 e;injection e with e2 e3;subst e1 e2 e3
   exact⟨h1,h2⟩
  ·exact⟨(h7 c m l hm).1,(h7 c m l hm).2.1⟩
 ·rw[List.map_cons];refine List.nodup_cons.2 ⟨fun hm=>?_,h6.nodup⟩;obtain⟨⟨c,m,l⟩,e1,e2⟩:=List.mem_map.1 hm;exact(h7 c m l e1).2.2.1 e2
 ·have hc:c=cm:=hc;subst hc;rcases List.mem_cons.1 hm with e|hm
  ·injection e with e1 e;exact h4 e1.symm
  ·exact(h7 _ m l hm).2.2.2 rfl
theorem Qj.Pk(B:Qj st0 X0 st (((sp,0,[.int .i64 (T:Nat),ks,.mp cm])::A)++M) (XZ cm Wv (X8 0 S)::Os))(hA:YJ A ks (S.map Wv)): ∃F,Qj st0 X0 st M (ZC F sp T S::Os):=by
 have hnd:=B.nodup;rw[List.cons_append,List.map_cons]at hnd;have hn1:=(List.nodup_cons.1 hnd).1;have hdj: ∀c m l,(c,m,l)∈((sp,0,[.int .i64 (T:Nat),ks,.mp cm])::A)++M→c≠cm:=fun c m l hm e=>B.djM (XZ cm Wv (X8 0 S)) Qx c m l hm e;have B1:=B.freeze (o:=ZG ((sp,0,[.int .i64 (T:Nat),ks,.mp cm])::A)) (fun c m l hm=>B.row c m l (List.mem_append_left _ hm)) (fun c hc=>hc);refine⟨fun c=>(ZG ((sp,0,[.int .i64 (T:Nat),ks,.mp cm])::A)).F c∨c=cm,B1.join (fun h1 h2=>?_) fun c hc=>hc⟩;refine⟨ks,cm,A,h1 _ _ _ Qx,.inl ⟨_,_,List.mem_cons_self ..⟩,.inr rfl,fun e=>?_,h2,hA,fun c m l hm=>⟨h1 _ _ _ (List.mem_cons_of_mem _ hm),.inl ⟨m,l,List.mem_cons_of_mem _ hm⟩,fun e=>?_,fun e=>?_⟩⟩
 ·exact hdj sp _ _ (List.mem_cons_self ..) e
 ·subst e;exact hn1 (List.mem_map.2 ⟨(_,m,l),List.mem_append_left _ hm,rfl⟩)
 ·exact hdj c m l (by simp[hm]) e
end
def ZW(st st':St)(F:Fp)(sp T:Nat)(S':JW):Prop:= ∃F',Ef st'.h.get F' sp T S'∧Eg st st' F F'∧YI F st st'
theorem Qj.Kk{st0 st:St}{F F':Fp}{M:QK}{Os:List Ob}{sp T:Nat}{S':JW}(B:Qj st0 F st M (ZC F' sp T S'::Os)):ZW st0 st F sp T S':=
 ⟨F',B.at_ (k:=0) rfl,fun c hc=>⟨(B.DC (k:=0) rfl c hc).symm,B.Vj (k:=0) rfl c hc⟩,B.U7⟩
theorem Qj.XP{st0 st st':St}{X0 F:Fp}{M:QK}{Os:List Ob}{sp T:Nat}{S S':JW}(B:Qj st0 X0 st M (ZC F sp T S::Os))(h:ZW st st' F sp T S'): ∃F',Qj st0 X0 st' M (ZC F' sp T S'::Os):=by
 obtain⟨F',h1,h2,h3⟩:=h;exact⟨F',B.call (k:=0) rfl h3 (o':=ZC F' sp T S') h1 h2⟩
theorem G4.app{S:JW}{n:Bn}(h:n∉S):G4 S n S.length (S++[n]):=.inr ⟨h,rfl,rfl⟩
theorem OS(S:JW)(n:Bn):S.map Wv++[Wv n]=(S++[n]).map Wv:=by simp
end
section

theorem OH(n:Nat):((2^n:Nat):Int)=(2:Int)^n:=by rw[Int.natCast_pow];rfl
theorem Bl{n:Nat}(h:n≤62):2^n≤4611686018427387904:=Nat.le_trans (Nat.pow_le_pow_right Q8 h) Q8
theorem Z1{P:Program}{G:Env}{K:List (Nat×AV)}{st:St}{t yt:TypeId}{x y:Operand}{k:IntKind}{n:Nat}(hx:QD G K x=some (.int .i64 1))(hy:QD G K y=some (.int k ((n:Nat):Int)))(h:n≤62):Uf P G K (.binOp .shl t x y yt) st (.int .i64 (2^n:Nat)) st:=
 U2 hx hy (by
  have hp:((2^n:Nat):Int)≤4611686018427387904:=Int.ofNat_le.2 (Bl h);have hp0:(0:Int)≤((2^n:Nat):Int):=Int.natCast_nonneg _;show Ql (G6 ((n:Nat):Int) 0) none (Xd (ZX .i64 (1 *2^(min ((n:Nat):Int).toNat 64))) fun z=>some (AV.int .i64 z))=_
  rw[Yw,decide_eq_false Qe,UY,Uj,Int.toNat_natCast,Nat.min_eq_left Qe,Int.one_mul,←OH,wrap64 (Int.le_trans Q8 hp0) (Int.le_trans hp Q8)];rfl)
end
section
variable {a b:Nat}

section
variable {P:Program} {G:Env} {K:List (Nat×AV)} {st:St} {t yt:TypeId} {x y:Operand}
theorem Gr(ha:a≤9223372036854775807):(BitVec.ofInt 64 ((a:Nat):Int)).toNat=a:=by
 rw[BitVec.ofInt_natCast,BitVec.toNat_ofNat];exact Nat.mod_eq_of_lt Qe
theorem PQ(hx:QD G K x=some (.int .i64 (a:Nat)))(hy:QD G K y=some (.int .i64 (b:Nat)))(ha:a≤9223372036854775807)(hb:b≤9223372036854775807):Uf P G K (.binOp .and t x y yt) st (.int .i64 (a&&&b:Nat)) st:=
 U2 hx hy (by
  rw[XB Q8 Q8];show Xd (IntKind.i64.wrap (((BitVec.ofInt 64 ((a:Nat):Int)&&&BitVec.ofInt 64 ((b:Nat):Int)).toNat:Nat):Int)) (fun z=>some (AV.int .i64 z))=_;have h:a&&&b≤a:=Nat.and_le_left
  rw[BitVec.toNat_and,Gr ha,Gr hb,UY,wrap64 Qe Qe])
theorem OL(hx:QD G K x=some (.int .i64 (a:Nat)))(hy:QD G K y=some (.int .i64 1))(ha:a≤9223372036854775807):Uf P G K (.binOp .and t x y yt) st (.int .i64 (a % 2:Nat)) st:=by
 have:=PQ (P:=P) (st:=st) (t:=t) (yt:=yt) (b:=1) hx hy ha Q8;rw[Nat.and_one_is_mod]at this;exact this
theorem uJ(ha:a≤9223372036854775807)(hb:b≤9223372036854775807):a|||b≤9223372036854775807:=by
 have:=Nat.or_lt_two_pow (n:=63) (show a<2^63 by omega) (show b<2^63 by omega);omega
theorem zU(hx:QD G K x=some (.int .i64 (a:Nat)))(hy:QD G K y=some (.int .i64 (b:Nat)))(ha:a≤9223372036854775807)(hb:b≤9223372036854775807):Uf P G K (.binOp .or t x y yt) st (.int .i64 (a|||b:Nat)) st:=
 U2 hx hy (by
  rw[XB Q8 Q8];show Xd (IntKind.i64.wrap (((BitVec.ofInt 64 ((a:Nat):Int)|||BitVec.ofInt 64 ((b:Nat):Int)).toNat:Nat):Int)) (fun z=>some (AV.int .i64 z))=_;have h:=uJ ha hb
  rw[BitVec.toNat_or,Gr ha,Gr hb,UY,wrap64 Qe Qe])
theorem OK{k:IntKind}{n:Nat}(hx:QD G K x=some (.int .i64 (a:Nat)))(hy:QD G K y=some (.int k ((n:Nat):Int)))(hn:n≤62):Uf P G K (.binOp .shr t x y yt) st (.int .i64 (a/2^n:Nat)) st:=
 U2 hx hy (by
  show Ql (G6 ((n:Nat):Int) 0) none (Xd (((a:Nat):Int).fdiv (2^(min ((n:Nat):Int).toNat 64))) fun z=>some (AV.int .i64 z))=_
  rw[Yw,decide_eq_false Qe,UY,Int.toNat_natCast,Nat.min_eq_left Qe,←OH,←Int.ofNat_fdiv];rfl)
theorem u0{k:IntKind}{n:Nat}(hx:QD G K x=some (.int .i64 (a:Nat)))(hy:QD G K y=some (.int k ((n:Nat):Int)))(hn:n≤62)(hb:a *2^n≤9223372036854775807):Uf P G K (.binOp .shl t x y yt) st (.int .i64 (a *2^n:Nat)) st:=
 U2 hx hy (by
  show Ql (G6 ((n:Nat):Int) 0) none (Xd (ZX .i64 (((a:Nat):Int) *2^(min ((n:Nat):Int).toNat 64))) fun z=>some (AV.int .i64 z))=_
  rw[Yw,decide_eq_false Qe,UY,Uj,Int.toNat_natCast,Nat.min_eq_left Qe,←OH,←Int.natCast_mul,wrap64 Qe Qe];rfl)
theorem Rv(c t:Nat):(((c/2^t % 2:Nat):Int)=1)↔c.testBit t=true:=by
 rw[Nat.testBit_eq_decide_div_mod_eq,decide_eq_true_eq];omega
end
end
section
set_option maxHeartbeats 8000000
variable {F:Fp} {S:JW} {Tn c i sp:Nat} {st:St}

structure Y0(st:St)(F:Fp)(sp T:Nat)(S:JW):Prop where
 at_:Ef st.h.get F sp T S
 hi: ∀c,F c→c<st.n
theorem Y0.q{st st':St}{F:Fp}{sp T:Nat}{S:JW}(hS:Y0 st F sp T S)(q:Qt st st'):Y0 st' F sp T S:=⟨hS.at_.frame fun c hc=>q.J0 c (hS.hi c hc),fun c hc=>Nat.lt_of_lt_of_le (hS.hi c hc) q.le⟩
theorem Qj.H6{st0:St}{X0:Fp}{M:QK}{Os:List Ob}{T:Nat}(B:Qj st0 X0 st M Os){k:Nat}(hk:Os[k]? =some (ZC F sp T S)):Y0 st F sp T S:=⟨B.at_ hk,B.Vj hk⟩
def C9:Bn→Int
 |.leaf _=>0
 |.fork t _ _=>((t:Nat):Int)
def ep:Bn→Nat
 |.leaf _=>0
 |.fork _ l _=>l
def er:Bn→Nat
 |.leaf _=>0
 |.fork _ _ h=>h
def F8:Bn→Bool
 |.leaf _=>false
 |.fork _ _ _=>true
theorem ML{T:Nat}{n:Bn}(h:S[i]? =some n):lvl T S i=if F8 n then(C9 n).toNat else T:=by
 unfold lvl;rw[h];cases n<;>simp[F8,C9]
theorem Pt(n:Bn):HP Tryz.prog (Wv n) 356 true=some (.tup [.agg [.int .i64 (C9 n),.int .i64 (ep n:Nat),.int .i64 (er n:Nat)],.bool (F8 n)]):=by
 cases n with
 |leaf v=>exact jo _
 |fork t l h=>exact jq _
def eI(F:Fp)(sp Tn:Nat)(S:JW)(c j:Nat):Prop:= ∀(st:St) (n:Bn),Qg st→Y0 st F sp Tn S→S[j]? =some n→
 ∃t u fid v st',Wv n=.ifc t u∧WB Tryz.prog t "sibyl/bdd.at" =some fid∧QR fid [u,.ptr sp 0 0,.int .i64 (c:Nat)] st v st'∧v=.int .i64 (UF S j c)∧Qt st st'
def E9{α:Type}(p:α→Bool):List α→Nat→Int
 |[],_=> -1
 |k::l,i=>if p k then(i:Int)else E9 p l (i+1)
theorem Es{α:Type}{p:α→Bool}{l:List α}{k:α}(h:l[i]? =some k):E9 p (l.drop i) i=if p k then(i:Int)else E9 p (l.drop (i+1)) (i+1):=by
 obtain⟨h1,h2⟩:=List.getElem?_eq_some_iff.1 h;rw[List.drop_eq_getElem_cons h1,E9,h2]
theorem BR{α:Type}{p:α→Bool}{l:List α}(h:l.length≤i):E9 p (l.drop i) i= -1:=by rw[List.drop_eq_nil_of_le h];rfl
theorem BS{α:Type}(p:α→Bool): ∀(l:List α) (i:Nat),decide (0≤E9 p l i)=l.any p:=by
 intro l
 induction l with
 |nil=>intro i;rfl
 |cons k l ih=>
  intro i;rw[E9,List.any_cons]
  cases hp:p k with
  |true=>rw[if_pos rfl];simp
  |false=>rw[if_neg Q8,ih];rfl

theorem Wi(hf:Qg st)(hS:Y0 st F sp Tn S): ∃v st',QR 165 [.ptr sp 0 0] st v st'∧v=iN Tn∧Qt st st':=by
 obtain⟨ks,cm,hrow,hrd,hlen,hbn⟩:=hS.at_.rd;refine Jq Tryz.func165 Tryz.ntmps165 fun T K=>?_;have M:=Mem.start hf;refine Qb 2 K M fun _ K=>?_;refine p1 K (U0 YV rfl rfl) fun _ K=>?_;refine Qb 4 K M fun _ K=>?_;refine p1 K (Qh rfl (Qp (M.QY Qx hrow.QF) (Qc Qq rfl))) fun _ K=>?_;refine Qb 1 K M ?_;exact⟨rfl,M.qt⟩

theorem R3(hf:Qg st)(hS:Y0 st F sp Tn S): ∃v st',QR 293 [.ptr sp 0 0] st v st'∧v=iZ (S.length:Nat)∧Qt st st':=by
 obtain⟨ks,cm,hrow,hrd,hlen,hbn⟩:=hS.at_.rd;refine Jq Tryz.func293 Tryz.ntmps293 fun T K=>?_;have M:=Mem.start hf;refine Qb 2 K M fun _ K=>?_;refine p1 K (U0 YV rfl rfl) fun _ K=>?_;refine Qb 4 K M fun _ K=>?_;refine p1 K (Qh rfl (Qp (M.QY Qx hrow.QF) (Qc JS rfl))) fun _ K=>p1 K (Q4 Z0 rfl rfl hlen) fun _ K=>?_;refine Qb 1 K M ?_;exact⟨rfl,M.qt⟩

theorem Ly(hf:Qg st)(hS:Y0 st F sp Tn S)(hi:i<S.length): ∃v st',QR 262 [.ptr sp 0 0,iN i] st v st'∧v=.bool true∧Qt st st':=by
 obtain⟨ks,cm,hrow,hrd,hlen,hbn⟩:=hS.at_.rd;refine Jq Tryz.func262 Tryz.ntmps262 fun T K=>?_;have M:=Mem.start hf;refine Qb 3 K M fun _ K=>?_;refine Uv K rfl (fun _ e7 K=>?_) fun _ e7 K=>?_
 ·exfalso;omega
 refine Qb 2 K M fun _ K=>?_;obtain⟨v10,st10,ev10,rfl,q10⟩:=R3 M.fresh (hS.q M.qt);refine pg K rfl rfl (Qf rfl ev10) fun _ K=>?_;replace M:=M.quiet q10;refine Qb 3 K M ?_;exact⟨congrArg AV.bool (decide_eq_true Qe),M.qt⟩

theorem Oc(hf:Qg st)(hS:Y0 st F sp Tn S)(hi:i<S.length)(t:Nat)(ht:t<Tn): ∃v st',QR 325 [.ptr sp 0 0,iN i,iN t] st v st'∧v=.bool (decide (t<lvl Tn S i))∧Qt st st':=by
 obtain⟨ks,cm,hrow,hrd,hlen,hbn⟩:=hS.at_.rd;refine Jq Tryz.func325 Tryz.ntmps325 fun T K=>?_;have M:=Mem.start hf;refine Qb 3 K M fun _ K=>?_;refine oQ K M (Ly M.fresh (hS.q M.qt) hi) rfl rfl fun _ _ K M=>?_;refine Qb 5 K M fun _ K=>?_;refine p1 K (Qh rfl (Qp (M.QY Qx hrow.QF) (Qc JS rfl))) fun _ K=>?_;refine Qb 1 K M fun _ K=>?_;obtain⟨n19,hn19⟩:=YP S i Qe;refine oI (Je.mem M hrd Qx) (by rw[List.getElem?_map,hn19];rfl) K UP Yg rfl rfl rfl fun _ _ _ _ K=>?_;refine p1 K (Kn rfl (Pt n19)) fun _ K=>?_;refine au 8 K M ?_;intro c7 _ _ K _ M;refine oB K (QA rfl) rfl fun b26 _ e26 K=>?_;cases b26
 ·replace e26:((F8 n19))=true:=by simpa using e26
  refine Qb 6 K M ?_;refine⟨?_,M.qt⟩;rw[ML hn19]
  cases n19 with
  |leaf v=>first|(cases e26;done)|(rw[if_neg (show¬F8 (Bn.leaf v)=true by simp[F8]),decide_eq_true ht];rfl)
  |fork t' l h=>first|(cases e26;done)|(refine congrArg AV.bool (decide_eq_decide.2 ?_);rw[if_pos (show F8 (Bn.fork t' l h)=true from rfl)];simp only[C9];omega)
 replace e26:((F8 n19))=false:=by simpa using e26
 refine Qb 6 K M ?_;refine⟨?_,M.qt⟩;rw[ML hn19]
 cases n19 with
 |leaf v=>first|(cases e26;done)|(rw[if_neg (show¬F8 (Bn.leaf v)=true by simp[F8]),decide_eq_true ht];rfl)
 |fork t' l h=>first|(cases e26;done)|(refine congrArg AV.bool (decide_eq_decide.2 ?_);rw[if_pos (show F8 (Bn.fork t' l h)=true from rfl)];simp only[C9];omega)

theorem Ti(hf:Qg st)(hS:Y0 st F sp Tn S)(hi:i<S.length): ∃v st',QR 341 [.ptr sp 0 0,iN i] st v st'∧(∃n,S[i]? =some n∧v=iZ (if F8 n then C9 n else-1))∧Qt st st':=by
 obtain⟨ks,cm,hrow,hrd,hlen,hbn⟩:=hS.at_.rd;refine Jq Tryz.func341 Tryz.ntmps341 fun T K=>?_;have M:=Mem.start hf;refine Qb 3 K M fun _ K=>?_;refine oQ K M (Ly M.fresh (hS.q M.qt) hi) rfl rfl fun _ _ K M=>?_;refine Qb 5 K M fun _ K=>?_;refine p1 K (Qh rfl (Qp (M.QY Qx hrow.QF) (Qc JS rfl))) fun _ K=>?_;refine Qb 1 K M fun _ K=>?_;obtain⟨n17,hn17⟩:=YP S i Qe;refine oI (Je.mem M hrd Qx) (by rw[List.getElem?_map,hn17];rfl) K UP Yg rfl rfl rfl fun _ _ _ _ K=>?_;refine p1 K (Kn rfl (Pt n17)) fun _ K=>?_;refine au 7 K M ?_;intro c5 _ _ K _ M;refine YU K rfl (fun h22=>?_) fun h22=>?_
 ·have hb22:=h22;refine Qb 3 K M ?_;exact⟨⟨n17,hn17,by rw[if_pos h22]⟩,M.qt⟩
 have hb22:=h22;refine Qb 1 K M ?_;exact⟨⟨n17,hn17,by rw[if_neg (by rw[h22];decide)]⟩,M.qt⟩

theorem jg(hf:Qg st)(hS:Y0 st F sp Tn S)(hi:i<S.length){t l h:Nat}(hn:S[i]? =some (.fork t l h)): ∃v st',QR 342 [.ptr sp 0 0,iN i] st v st'∧v=.tup [iN l,iN h]∧Qt st st':=by
 obtain⟨ks,cm,hrow,hrd,hlen,hbn⟩:=hS.at_.rd;refine Jq Tryz.func342 Tryz.ntmps342 fun T K=>?_;have M:=Mem.start hf;refine Qb 4 K M fun _ K=>?_;refine oQ K M (Ly M.fresh (hS.q M.qt) hi) rfl rfl fun _ _ K M=>?_;refine Qb 5 K M fun _ K=>?_;refine p1 K (Qh rfl (Qp (M.QY Qx hrow.QF) (Qc JS rfl))) fun _ K=>?_;refine Qb 1 K M fun _ K=>?_;obtain⟨n18,hn18⟩:=YP S i Qe;refine oI (Je.mem M hrd Qx) (by rw[List.getElem?_map,hn18];rfl) K UP Yg rfl rfl rfl fun _ _ _ _ K=>?_;refine p1 K (Kn rfl (Pt n18)) fun _ K=>?_;refine au 7 K M ?_;intro c6 _ _ K _ M;refine YU K rfl (fun h23=>?_) fun h23=>?_
 ·have hb23:=h23;refine Z7 ?_;refine QQ (l:=[(0,0),(1,0),(2,0),(3,0),(4,0),(5,0)]) (by kernel_rfl) ?_;refine Yd 6 K M fun _ K=>?_;refine Jf ?_;show W _ _ _ _ _ _ _;refine Qb 0 K M ?_
  rw[hn]at hn18;injection hn18 with hn18;subst hn18
  exact⟨rfl,M.qt⟩
 have hb23:=h23
 (rw[hn]at hn18;injection hn18 with hn18;subst hn18;cases h23)

theorem Sw(hf:Qg st)(v0:Int)(u w:AV): ∃v st',QR 379 [.agg [iZ v0],u,w] st v st'∧v=iZ v0∧Qt st st':=by
 refine Jq Tryz.func379 Tryz.ntmps379 fun T K=>?_;have M:=Mem.start hf;refine au 5 K M ?_;intro c3 _ _ K _ M;refine Qb 0 K M ?_;exact⟨rfl,M.qt⟩

theorem SJ(hf:Qg st)(hS:Y0 st F sp Tn S)(h6:Tn≤6)(wf:Zo Tn S){t l h:Nat}(hn:S[i]? =some (.fork t l h))(hc:c≤4611686018427387904)(ih: ∀j,j<i→eI F sp Tn S c j): ∃v st',QR 380 [.agg [iN t,iN l,iN h],.ptr sp 0 0,iN c] st v st'∧v=iZ (UF S i c)∧Qt st st':=by
 obtain⟨ks,cm,hrow,hrd,hlen,hbn⟩:=hS.at_.rd;obtain⟨w1,w2,w3,w4,w5,w6⟩:=wf.fork _ _ _ _ hn;have hil:=(List.getElem?_eq_some_iff.1 hn).1;refine Jq Tryz.func380 Tryz.ntmps380 fun T K=>?_;have M:=Mem.start hf;refine au 5 K M ?_;intro c3 _ _ K _ M;refine p1 K (OK (a:=c) (n:=t) rfl rfl Qe) fun _ K=>p1 K (OL (a:=(c/2^t)) rfl rfl (Nat.le_trans (Nat.div_le_self _ _) Qe)) fun _ K=>?_;refine Qb 1 K M fun _ K=>?_;refine Uk K rfl (fun h12=>?_) fun h12=>?_
 ·refine Z7 ?_;refine QQ (l:=[(0,0),(1,0),(2,0),(3,0),(4,0),(5,0),(6,0),(7,0),(8,0),(9,0),(10,0),(11,0)]) (by kernel_rfl) ?_;refine Yd 3 K M fun _ K=>?_;refine q1 rfl K (Qh rfl (Qp (M.QY Qx hrow.QF) (Qc JS rfl))) fun _ K=>?_;refine Yd 2 K M fun _ K=>?_;obtain⟨n19,hn19⟩:=YP S h Qe;refine dI rfl rfl (Je.mem M hrd Qx) (by rw[List.getElem?_map,hn19];rfl) K UP Yg rfl rfl rfl fun _ _ _ _ K=>?_;refine Yd 2 K M fun _ K=>?_;obtain⟨tt23,uu23,ff23,v23,st23,ei23,em23,ev23,rfl,q23⟩:=ih h Qe _ _ M.fresh (hS.q M.qt) hn19;refine qA rfl K (FV (show QD _ _ _=_ from congrArg some ei23) em23 rfl ev23) fun _ K=>?_;replace M:=M.quiet q23;refine q1 rfl K (Yo rfl) fun _ K=>Jf ?_;show W _ _ _ _ _ _ _;refine Qb 0 K M ?_;exact⟨by rw[XO wf hn,if_pos ((Rv c t).1 h12)],M.qt⟩
 refine Qb 0 K M fun _ K=>?_;refine QQ (l:=[(0,0),(1,0),(2,0),(3,0),(4,0),(5,0),(6,0),(7,0),(8,0),(9,0),(10,0),(11,0)]) (by kernel_rfl) ?_;refine Yd 3 K M fun _ K=>?_;refine q1 rfl K (Qh rfl (Qp (M.QY Qx hrow.QF) (Qc JS rfl))) fun _ K=>?_;refine Yd 2 K M fun _ K=>?_;obtain⟨n30,hn30⟩:=YP S l Qe;refine dI rfl rfl (Je.mem M hrd Qx) (by rw[List.getElem?_map,hn30];rfl) K UP Yg rfl rfl rfl fun _ _ _ _ K=>?_;refine Yd 2 K M fun _ K=>?_;obtain⟨tt34,uu34,ff34,v34,st34,ei34,em34,ev34,rfl,q34⟩:=ih l Qe _ _ M.fresh (hS.q M.qt) hn30;refine qA rfl K (FV (show QD _ _ _=_ from congrArg some ei34) em34 rfl ev34) fun _ K=>?_;replace M:=M.quiet q34;refine q1 rfl K (Yo rfl) fun _ K=>Jf ?_;show W _ _ _ _ _ _ _;refine Qb 0 K M ?_;exact⟨by rw[XO wf hn,if_neg fun hb=>h12 ((Rv c t).2 hb)],M.qt⟩

theorem vb(h6:Tn≤6)(wf:Zo Tn S)(hc:c≤4611686018427387904): ∀j,j<S.length→eI F sp Tn S c j:=by
 intro j
 induction j using Nat.strongRecOn with
 |_ j ih=>
  intro hj st n hf hS hn
  cases n with
  |leaf v=>
   obtain⟨v',st',ev,rfl,q⟩:=Sw hf v (.ptr sp 0 0) (.int .i64 (c:Nat));exact⟨_,_,_,_,st',rfl,uV,ev,by rw[XN hn],q⟩
  |fork t l h=>
   obtain⟨v',st',ev,rfl,q⟩:=SJ hf hS h6 wf hn hc fun k hk=>ih k hk Qe;exact⟨_,_,_,_,st',rfl,uW,ev,rfl,q⟩

theorem ji(hf:Qg st)(hS:Y0 st F sp Tn S)(h6:Tn≤6)(wf:Zo Tn S)(hi:i<S.length)(hc:c<2^Tn): ∃v st',QR 263 [.ptr sp 0 0,iN i,iN c] st v st'∧v=iZ (UF S i c)∧Qt st st':=by
 obtain⟨ks,cm,hrow,hrd,hlen,hbn⟩:=hS.at_.rd;have hp:=Bl (show Tn≤62 by omega);refine Jq Tryz.func263 Tryz.ntmps263 fun T K=>?_;have M:=Mem.start hf;refine Qb 3 K M fun _ K=>?_;refine oQ K M (Ly M.fresh (hS.q M.qt) hi) rfl rfl fun _ _ K M=>?_;refine Qb 5 K M fun _ K=>?_;refine Uv K rfl (fun _ e15 K=>?_) fun _ e15 K=>?_
 ·refine Qb 2 K M fun _ K=>?_;obtain⟨v18,st18,ev18,rfl,q18⟩:=Wi M.fresh (hS.q M.qt);refine pg K rfl rfl (Qf rfl ev18) fun _ K=>?_;replace M:=M.quiet q18;refine pg K rfl rfl (Z1 (n:=Tn) rfl rfl Qe) fun _ K=>?_;refine Qb 2 K M fun _ K=>?_;refine Uk K rfl (fun h21=>?_) fun h21=>?_
  ·exfalso;omega
  refine Qb 3 K M fun _ K=>?_;refine p1 K (Qh rfl (Qp (M.QY Qx hrow.QF) (Qc JS rfl))) fun _ K=>?_;refine Qb 1 K M fun _ K=>?_;obtain⟨n27,hn27⟩:=YP S i Qe;refine oI (Je.mem M hrd Qx) (by rw[List.getElem?_map,hn27];rfl) K UP Yg rfl rfl rfl fun _ _ _ _ K=>?_;refine Qb 2 K M fun _ K=>?_;obtain⟨tt31,uu31,ff31,v31,st31,ei31,em31,ev31,rfl,q31⟩:=vb (c:=c) h6 wf Qe _ hi _ _ M.fresh (hS.q M.qt) hn27;refine p1 K (FV (show QD _ _ _=_ from congrArg some ei31) em31 rfl ev31) fun _ K=>?_;replace M:=M.quiet q31;refine Qb 1 K M ?_;exact⟨rfl,M.qt⟩
 exfalso;omega
end
end Go.Proofs.YtildagdnomiahaaGreatDoor
