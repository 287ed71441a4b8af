/-
  What hangs on letters, in memory.
-/
import Derived.Test.YtildagdnomiahaaGreatDoorQkBdP
import Derived.Test.YtildagdnomiahaaGreatDoorQkCo
set_option maxRecDepth 100000
set_option linter.unnecessarySimpa false
set_option linter.unusedSimpArgs false
set_option linter.unusedVariables false
namespace Go.Proofs.YtildagdnomiahaaGreatDoor
open Go Go.RowKit
section

def W6:Bn→AV
 |.leaf v=>.ifc 354 (.agg [.int .i64 v])
 |.fork t l h=>.ifc 356 (.agg [.int .i64 (t:Nat),.int .i64 (l:Nat),.int .i64 (h:Nat)])
theorem Dw(n:Bn):Qw (W6 n)=true:=by cases n<;>rfl
theorem G2(u:AV):Ia Tryz.prog 354 u=some (.ifc 354 u):=by kernel_rfl
theorem G3(u:AV):Ia Tryz.prog 356 u=some (.ifc 356 u):=by kernel_rfl
theorem yB(u:AV):Ik Tryz.prog (.ifc 356 u) 356 true=some (.tup [u,.bool true]):=by kernel_rfl
theorem yA(u:AV):Ik Tryz.prog (.ifc 354 u) 356 true=some (.tup [.agg [.int .i64 0,.int .i64 0,.int .i64 0],.bool false]):=by kernel_rfl
theorem xj:XY Tryz.prog 354 "sibyl/bdd.at" =some 379:=by kernel_rfl
theorem xk:XY Tryz.prog 356 "sibyl/bdd.at" =some 380:=by kernel_rfl
theorem Lv(a b:Int):UO Tryz.prog 354 [.int .i64 a] [.int .i64 b]=Qj (A5 a b) (some true) (some false):=by kernel_rfl
theorem Lw(a b c x y z:Int):UO Tryz.prog 356 [.int .i64 a,.int .i64 b,.int .i64 c] [.int .i64 x,.int .i64 y,.int .i64 z]=Qj (A5 a x) (Qj (A5 b y) (Qj (A5 c z) (some true) (some false)) (some false)) (some false):=by kernel_rfl
theorem PC(l:List AV):Ic Tryz.prog (.ifc 354 (.agg l))=aY (UO Tryz.prog 354 l l):=by kernel_rfl
theorem PD(l:List AV):Ic Tryz.prog (.ifc 356 (.agg l))=aY (UO Tryz.prog 356 l l):=by kernel_rfl
theorem jY(a b:List AV):Ae Tryz.prog (.ifc 354 (.agg a)) (.ifc 354 (.agg b))=VO (UO Tryz.prog 354 a b) a b:=by kernel_rfl
theorem ub(a b:List AV):Ae Tryz.prog (.ifc 356 (.agg a)) (.ifc 356 (.agg b))=VO (UO Tryz.prog 356 a b) a b:=by kernel_rfl
theorem jZ(a b:List AV):Ae Tryz.prog (.ifc 354 (.agg a)) (.ifc 356 (.agg b))=some false:=by kernel_rfl
theorem ua(a b:List AV):Ae Tryz.prog (.ifc 356 (.agg a)) (.ifc 354 (.agg b))=some false:=by kernel_rfl
theorem MN: ∃ms,Tryz.prog.underlying 328=some (.interface ms):=⟨_,Tryz.underlying328⟩
theorem zk:Tryz.prog.underlying 255=some (.map 328 3):=by kernel_rfl
theorem jK:XQ Tryz.prog 255 W6 (.int .i64 0):=by
 obtain⟨ms,hu⟩:=MN
 have eb: ∀(a:Int),A5 a a=true:=fun a=>by rw[Ye];exact decide_eq_true rfl
 refine⟨328,3,.interface ms,zk,hu,by kernel_rfl,fun a=>?_,fun a i=>rfl,fun a b v n es i=>?_⟩
 ·cases a with
  |leaf v=>
   show Ic Tryz.prog (.ifc 354 (.agg [.int .i64 v]))=true;rw[PC,Lv,eb];rfl
  |fork t l h=>
   show Ic Tryz.prog (.ifc 356 (.agg [.int .i64 (t:Nat),.int .i64 (l:Nat),.int .i64 (h:Nat)]))=true;rw[PD,Lw,eb,eb,eb];rfl
 ·have e:U7 Tryz.prog 328 (.interface ms) (W6 a) ((W6 b,v,n)::es) i=ob (Ae Tryz.prog (W6 a) (W6 b)) fun q=>Qj q (some (some (i,v))) (U7 Tryz.prog 328 (.interface ms) (W6 a) es (i+1)):=by
   exact Wp _ _ _ _ _ _ _
  have e2:(a=b→Ae Tryz.prog (W6 a) (W6 b)=some true)∧(a≠b→Ae Tryz.prog (W6 a) (W6 b)=some false):=by
   cases a with
   |leaf x=>
    cases b with
    |leaf y=>
     rw[W6,W6,jY,Lv,Ye]
     by_cases h:x=y
     ·subst h;exact⟨fun _=>by simp[Qs,VO,NG,LK,VN,eb,Q6],fun h=>absurd rfl h⟩
     ·exact⟨fun e=>by injection e with e;exact absurd e h,fun _=>by simp[h,Qp,VO]⟩
    |fork t l h'=>rw[W6,W6,jZ];exact⟨fun e=>(by cases e),fun _=>rfl⟩
   |fork t l h'=>
    cases b with
    |leaf y=>rw[W6,W6,ua];exact⟨fun e=>(by cases e),fun _=>rfl⟩
    |fork t2 l2 h2=>
     rw[W6,W6,ub,Lw,Ye,Ye,Ye]
     by_cases h1:t=t2
     ·by_cases h3:l=l2
      ·by_cases h4:h'=h2
       ·subst h1 h3 h4;exact⟨fun _=>by simp[Qs,VO,NG,LK,VN,eb,Q6],fun h=>absurd rfl h⟩
       ·exact⟨fun e=>by injection e with _ _ e;exact absurd e h4,fun _=>by simp[h1,h3,show¬((h':Int)=(h2:Int)) by omega,Qs,Qp,VO]⟩
      ·exact⟨fun e=>by injection e with _ e;exact absurd e h3,fun _=>by simp[h1,show¬((l:Int)=(l2:Int)) by omega,Qs,Qp,VO]⟩
     ·exact⟨fun e=>by injection e with e;exact absurd e h1,fun _=>by simp[show¬((t:Int)=(t2:Int)) by omega,Qp,VO]⟩
  rw[e];refine⟨fun h=>?_,fun h=>?_⟩
  ·rw[e2.1 h];rfl
  ·rw[e2.2 h];rfl
def XI:Nat→JW→List (Bn×AV)
 |_,[]=>[]
 |j,n::S=>(n,.int .i64 (j:Nat))::XI (j+1) S
theorem Ox: ∀(j:Nat) (S:JW) (n:Bn),XI j (S++[n])=XI j S++[(n,.int .i64 (j+S.length:Nat))]
 |j,[],n=>by simp[XI]
 |j,x::S,n=>by
  rw[List.cons_append,XI,XI,Ox (j+1) S n,List.cons_append,List.length_cons,show j+1+S.length=j+(S.length+1) by omega]
theorem Da: ∀{j:Nat} {S:JW} {n:Bn} {v:AV},(n,v)∈XI j S→ ∃i:Nat,S[i]? =some n∧v=.int .i64 (j+i:Nat)
 |j,[],n,v,h=>by cases h
 |j,x::S,n,v,h=>by
  rcases List.mem_cons.1 h with e|h
  ·injection e with e1 e2
   subst e1 e2;exact⟨0,rfl,rfl⟩
  ·obtain⟨i,h1,h2⟩:=Da h;exact⟨i+1,h1,by rw[h2];congr 2;omega⟩
theorem Cm: ∀{j:Nat} {S:JW} {n:Bn},n∈S→ ∃v,(n,v)∈XI j S
 |j,[],n,h=>by cases h
 |j,x::S,n,h=>by
  rcases List.mem_cons.1 h with rfl|h
  ·exact⟨_,List.mem_cons_self ..⟩
  ·obtain⟨v,hv⟩:=Cm (j:=j+1) h;exact⟨v,List.mem_cons_of_mem _ hv⟩
theorem xu{S:JW}{n:Bn}(h:U1 (XI 0 S) n=none):n∉S:=fun hm=>by
 obtain⟨v,hv⟩:=Cm (j:=0) hm;exact KZ h v hv
theorem xr{S:JW}{n:Bn}{v:AV}(h:U1 (XI 0 S) n=some v): ∃i:Nat,S[i]? =some n∧v=.int .i64 (i:Nat):=by
 obtain⟨i,h1,h2⟩:=Da (IL h);exact⟨i,h1,by rw[h2,Nat.zero_add]⟩
def ZO(R:QK):Ob:=⟨fun c=> ∃m l,(c,m,l)∈R,fun h=> ∀c m l,(c,m,l)∈R→Qu h c m l,fun h h' e H c m l hm=>(H c m l hm).frame (e c ⟨m,l,hm⟩)⟩
def Er(h:Hp)(F:Fp)(sp T:Nat)(S:JW):Prop:=
 ∃ks cm A,Qu h sp 0 [.int .i64 (T:Nat),ks,.mp cm]∧F sp∧F cm∧sp≠cm∧(Vn cm W6 (XI 0 S)).H h∧YS A ks (S.map W6)∧ ∀c m l,(c,m,l)∈A→Qu h c m l∧F c∧c≠sp∧c≠cm
theorem Er.frame{h h':Hp}{F:Fp}{sp T:Nat}{S:JW}(e: ∀c,F c→h' c=h c)(H:Er h F sp T S):Er h' F sp T S:=by
 obtain⟨ks,cm,A,h1,h2,h3,h4,h5,h6,h7⟩:=H;exact⟨ks,cm,A,h1.frame (e sp h2),h2,h3,h4,(Vn cm W6 (XI 0 S)).fr _ _ (fun c hc=>by have hc:c=cm:=hc;rw[hc];exact e cm h3) h5,h6,fun c m l hm=>⟨(h7 c m l hm).1.frame (e c (h7 c m l hm).2.1),(h7 c m l hm).2⟩⟩
def ZL(F:Fp)(sp T:Nat)(S:JW):Ob:=⟨F,fun h=>Er h F sp T S,fun _ _ e H=>H.frame e⟩
theorem Er.rd{h:Hp}{F:Fp}{sp T:Nat}{S:JW}(H:Er h F sp T S): ∃ks cm,Qu h sp 0 [.int .i64 (T:Nat),ks,.mp cm]∧Jb h [] 1 (S.map fun n=>[W6 n]) ks∧JZ ks=some S.length∧S.length≤1000000000:=by
 obtain⟨ks,cm,A,h1,h2,h3,h4,h5,h6,h7⟩:=H;have hr:=h6.rd fun c m l hm=>(h7 c m l hm).1;have hl:=h6.len;rw[List.length_map]at hl;rw[List.map_map]at hr;refine⟨ks,cm,h1,hr,hl,?_⟩;generalize hv:S.map W6=vs at h6;have hl2:=congrArg List.length hv;rw[List.length_map]at hl2
 cases h6 with
 |none=>rw[hl2];simp
 |own hb=>rw[hl2];exact hb
section
variable {st0 st:St} {X0:Fp} {M:QK} {Os:List Ob} {F:Fp} {sp T cm:Nat} {S:JW} {ks:AV} {A:QK}
theorem Ql.fU(B:Ql st0 X0 st M (ZL F sp T S::Os)): ∃ks cm A,Ql st0 X0 st (((sp,0,[.int .i64 (T:Nat),ks,.mp cm])::A)++M) (Vn cm W6 (XI 0 S)::Os)∧YS A ks (S.map W6):=by
 obtain⟨ks,cm,A,h1,h2,h3,h4,h5,h6,h7⟩:=B.at_ (k:=0) rfl;refine⟨ks,cm,A,B.fv (fun c m l hm=>?_) ?_ h5 (fun c hc=>by have hc:c=cm:=hc;rw[hc];exact h3) fun c m l hm hc=>?_,h6⟩
 ·rcases List.mem_cons.1 hm with e|hm
  ·injection e with e1 e;injection e with e2 e3;subst e1 e2 e3
   exact⟨h1,h2⟩
  ·exact⟨(h7 c m l hm).1,(h7 c m l hm).2.1⟩
 ·rw[List.map_cons];refine List.nodup_cons.2 ⟨fun hm=>?_,h6.nodup⟩;obtain⟨⟨c,m,l⟩,e1,e2⟩:=List.mem_map.1 hm;exact(h7 c m l e1).2.2.1 e2
 ·have hc:c=cm:=hc;subst hc;rcases List.mem_cons.1 hm with e|hm
  ·injection e with e1 e;exact h4 e1.symm
  ·exact(h7 _ m l hm).2.2.2 rfl
theorem Ql.PW(B:Ql st0 X0 st (((sp,0,[.int .i64 (T:Nat),ks,.mp cm])::A)++M) (Vn cm W6 (XI 0 S)::Os))(hA:YS A ks (S.map W6)): ∃F,Ql st0 X0 st M (ZL F sp T S::Os):=by
 have hnd:=B.nodup;rw[List.cons_append,List.map_cons]at hnd;have hn1:=(List.nodup_cons.1 hnd).1;have hdj: ∀c m l,(c,m,l)∈((sp,0,[.int .i64 (T:Nat),ks,.mp cm])::A)++M→c≠cm:=fun c m l hm e=>B.djM (Vn cm W6 (XI 0 S)) Q0 c m l hm e;have B1:=B.freeze (o:=ZO ((sp,0,[.int .i64 (T:Nat),ks,.mp cm])::A)) (fun c m l hm=>B.row c m l (List.mem_append_left _ hm)) (fun c hc=>hc);refine⟨fun c=>(ZO ((sp,0,[.int .i64 (T:Nat),ks,.mp cm])::A)).F c∨c=cm,B1.join (fun h1 h2=>?_) fun c hc=>hc⟩;refine⟨ks,cm,A,h1 _ _ _ Q0,.inl ⟨_,_,List.mem_cons_self ..⟩,.inr rfl,fun e=>?_,h2,hA,fun c m l hm=>⟨h1 _ _ _ (List.mem_cons_of_mem _ hm),.inl ⟨m,l,List.mem_cons_of_mem _ hm⟩,fun e=>?_,fun e=>?_⟩⟩
 ·exact hdj sp _ _ (List.mem_cons_self ..) e
 ·subst e;exact hn1 (List.mem_map.2 ⟨(_,m,l),List.mem_append_left _ hm,rfl⟩)
 ·exact hdj c m l (by simp[hm]) e
end
def Xc(st st':St)(F:Fp)(sp T:Nat)(S':JW):Prop:= ∃F',Er st'.h.get F' sp T S'∧Es st st' F F'∧YR F st st'
theorem Ql.KJ{st0 st:St}{F F':Fp}{M:QK}{Os:List Ob}{sp T:Nat}{S':JW}(B:Ql st0 F st M (ZL F' sp T S'::Os)):Xc st0 st F sp T S':=
 ⟨F',B.at_ (k:=0) rfl,fun c hc=>⟨(B.P2 (k:=0) rfl c hc).symm,B.Vx (k:=0) rfl c hc⟩,B.U9⟩
theorem Ql.Vd{st0 st st':St}{X0 F:Fp}{M:QK}{Os:List Ob}{sp T:Nat}{S S':JW}(B:Ql st0 X0 st M (ZL F sp T S::Os))(h:Xc st st' F sp T S'): ∃F',Ql st0 X0 st' M (ZL F' sp T S'::Os):=by
 obtain⟨F',h1,h2,h3⟩:=h;exact⟨F',B.call (k:=0) rfl h3 (o':=ZL F' sp T S') h1 h2⟩
theorem Bo.app{S:JW}{n:Bn}(h:n∉S):Bo S n S.length (S++[n]):=.inr ⟨h,rfl,rfl⟩
theorem G6(S:JW)(n:Bn):S.map W6++[W6 n]=(S++[n]).map W6:=by simp
end
section
set_option maxHeartbeats 8000000
variable {F:Fp} {S:JW} {Tn c i sp:Nat} {st:St}

structure Y6(st:St)(F:Fp)(sp T:Nat)(S:JW):Prop where
 at_:Er st.h.get F sp T S
 hi: ∀c,F c→c<st.n
theorem Y6.q{st st':St}{F:Fp}{sp T:Nat}{S:JW}(hS:Y6 st F sp T S)(q:Qt st st'):Y6 st' F sp T S:=⟨hS.at_.frame fun c hc=>q.Jx c (hS.hi c hc),fun c hc=>Nat.lt_of_lt_of_le (hS.hi c hc) q.le⟩
theorem Ql.HQ{st0:St}{X0:Fp}{M:QK}{Os:List Ob}{T:Nat}(B:Ql st0 X0 st M Os){k:Nat}(hk:Os[k]? =some (ZL F sp T S)):Y6 st F sp T S:=⟨B.at_ hk,B.Vx hk⟩
def Dx:Bn→Int
 |.leaf _=>0
 |.fork t _ _=>((t:Nat):Int)
def kN:Bn→Nat
 |.leaf _=>0
 |.fork _ l _=>l
def kO:Bn→Nat
 |.leaf _=>0
 |.fork _ _ h=>h
def FQ:Bn→Bool
 |.leaf _=>false
 |.fork _ _ _=>true
theorem jy{T:Nat}{n:Bn}(h:S[i]? =some n):lvl T S i=if FQ n then(Dx n).toNat else T:=by
 unfold lvl;rw[h];cases n<;>simp[FQ,Dx]
theorem Rf(n:Bn):Ik Tryz.prog (W6 n) 356 true=some (.tup [.agg [.int .i64 (Dx n),.int .i64 (kN n:Nat),.int .i64 (kO n:Nat)],.bool (FQ n)]):=by
 cases n with
 |leaf v=>exact yA _
 |fork t l h=>exact yB _
def lk(F:Fp)(sp Tn:Nat)(S:JW)(c j:Nat):Prop:= ∀(st:St) (n:Bn),Qh st→Y6 st F sp Tn S→S[j]? =some n→
 ∃t u fid v st',W6 n=.ifc t u∧XY Tryz.prog t "sibyl/bdd.at" =some fid∧QP fid [u,.ptr sp 0 0,.int .i64 (c:Nat)] st v st'∧v=.int .i64 (UH S j c)∧Qt st st'
def EL{α:Type}(p:α→Bool):List α→Nat→Int
 |[],_=> -1
 |k::l,i=>if p k then(i:Int)else EL p l (i+1)
theorem E7{α:Type}{p:α→Bool}{l:List α}{k:α}(h:l[i]? =some k):EL p (l.drop i) i=if p k then(i:Int)else EL p (l.drop (i+1)) (i+1):=by
 obtain⟨h1,h2⟩:=List.getElem?_eq_some_iff.1 h;rw[List.drop_eq_getElem_cons h1,EL,h2]
theorem CF{α:Type}{p:α→Bool}{l:List α}(h:l.length≤i):EL p (l.drop i) i= -1:=by rw[List.drop_eq_nil_of_le h];rfl
theorem CG{α:Type}(p:α→Bool): ∀(l:List α) (i:Nat),decide (0≤EL p l i)=l.any p:=by
 intro l
 induction l with
 |nil=>intro i;rfl
 |cons k l ih=>
  intro i;rw[EL,List.any_cons]
  cases hp:p k with
  |true=>rw[if_pos rfl];simp
  |false=>rw[if_neg QA,ih];rfl

theorem Ws(hf:Qh st)(hS:Y6 st F sp Tn S): ∃v st',QP 165 [.ptr sp 0 0] st v st'∧v=iN Tn∧Qt st st':=by
 obtain⟨ks,cm,hrow,hrd,hlen,hbn⟩:=hS.at_.rd;refine Jy Tryz.func165 Tryz.ntmps165 fun T K=>?_;have M:=Mem.start hf;refine Qa 2 K M fun _ K=>?_;refine p1 K (U2 Zf rfl rfl) fun _ K=>?_;refine Qa 4 K M fun _ K=>?_;refine p1 K (Qi rfl (Qq (M.QX Q0 hrow.QH) (Qb Qr rfl))) fun _ K=>?_;refine Qa 1 K M ?_;exact⟨rfl,M.qt⟩

theorem S7(hf:Qh st)(hS:Y6 st F sp Tn S): ∃v st',QP 293 [.ptr sp 0 0] st v st'∧v=iZ (S.length:Nat)∧Qt st st':=by
 obtain⟨ks,cm,hrow,hrd,hlen,hbn⟩:=hS.at_.rd;refine Jy Tryz.func293 Tryz.ntmps293 fun T K=>?_;have M:=Mem.start hf;refine Qa 2 K M fun _ K=>?_;refine p1 K (U2 Zf rfl rfl) fun _ K=>?_;refine Qa 4 K M fun _ K=>?_;refine p1 K (Qi rfl (Qq (M.QX Q0 hrow.QH) (Qb JU rfl))) fun _ K=>p1 K (Q7 ZA rfl rfl hlen) fun _ K=>?_;refine Qa 1 K M ?_;exact⟨rfl,M.qt⟩

theorem LO(hf:Qh st)(hS:Y6 st F sp Tn S)(hi:i<S.length): ∃v st',QP 262 [.ptr sp 0 0,iN i] st v st'∧v=.bool true∧Qt st st':=by
 obtain⟨ks,cm,hrow,hrd,hlen,hbn⟩:=hS.at_.rd;refine Jy Tryz.func262 Tryz.ntmps262 fun T K=>?_;have M:=Mem.start hf;refine Qa 3 K M fun _ K=>?_;refine Uz K rfl (fun _ e7 K=>?_) fun _ e7 K=>?_
 ·exfalso;omega
 refine Qa 2 K M fun _ K=>?_;obtain⟨v10,st10,ev10,rfl,q10⟩:=S7 M.fresh (hS.q M.qt);refine pg K rfl rfl (Qg rfl ev10) fun _ K=>?_;replace M:=M.quiet q10;refine Qa 3 K M ?_;exact⟨congrArg AV.bool (decide_eq_true Qe),M.qt⟩

theorem O6(hf:Qh st)(hS:Y6 st F sp Tn S)(hi:i<S.length)(t:Nat)(ht:t<Tn): ∃v st',QP 325 [.ptr sp 0 0,iN i,iN t] st v st'∧v=.bool (decide (t<lvl Tn S i))∧Qt st st':=by
 obtain⟨ks,cm,hrow,hrd,hlen,hbn⟩:=hS.at_.rd;refine Jy Tryz.func325 Tryz.ntmps325 fun T K=>?_;have M:=Mem.start hf;refine Qa 3 K M fun _ K=>?_;refine oQ K M (LO M.fresh (hS.q M.qt) hi) rfl rfl fun _ _ K M=>?_;refine Qa 5 K M fun _ K=>?_;refine p1 K (Qi rfl (Qq (M.QX Q0 hrow.QH) (Qb JU rfl))) fun _ K=>?_;refine Qa 1 K M fun _ K=>?_;obtain⟨n19,hn19⟩:=YY S i Qe;refine oI (Jb.mem M hrd Q0) (by rw[List.getElem?_map,hn19];rfl) K UR Yi rfl rfl rfl fun _ _ _ _ K=>?_;refine p1 K (KL rfl (Rf n19)) fun _ K=>?_;refine au 8 K M ?_;intro c7 _ _ K _ M;refine oB K (Q8 rfl) rfl fun b26 _ e26 K=>?_;cases b26
 ·replace e26:((FQ n19))=true:=by simpa using e26
  refine Qa 6 K M ?_;refine⟨?_,M.qt⟩;rw[jy hn19]
  cases n19 with
  |leaf v=>first|(cases e26;done)|(rw[if_neg (show¬FQ (Bn.leaf v)=true by simp[FQ]),decide_eq_true ht];rfl)
  |fork t' l h=>first|(cases e26;done)|(refine congrArg AV.bool (decide_eq_decide.2 ?_);rw[if_pos (show FQ (Bn.fork t' l h)=true from rfl)];simp only[Dx];omega)
 replace e26:((FQ n19))=false:=by simpa using e26
 refine Qa 6 K M ?_;refine⟨?_,M.qt⟩;rw[jy hn19]
 cases n19 with
 |leaf v=>first|(cases e26;done)|(rw[if_neg (show¬FQ (Bn.leaf v)=true by simp[FQ]),decide_eq_true ht];rfl)
 |fork t' l h=>first|(cases e26;done)|(refine congrArg AV.bool (decide_eq_decide.2 ?_);rw[if_pos (show FQ (Bn.fork t' l h)=true from rfl)];simp only[Dx];omega)

theorem My(hf:Qh st)(hS:Y6 st F sp Tn S)(hi:i<S.length): ∃v st',QP 341 [.ptr sp 0 0,iN i] st v st'∧(∃n,S[i]? =some n∧v=iZ (if FQ n then Dx n else-1))∧Qt st st':=by
 obtain⟨ks,cm,hrow,hrd,hlen,hbn⟩:=hS.at_.rd;refine Jy Tryz.func341 Tryz.ntmps341 fun T K=>?_;have M:=Mem.start hf;refine Qa 3 K M fun _ K=>?_;refine oQ K M (LO M.fresh (hS.q M.qt) hi) rfl rfl fun _ _ K M=>?_;refine Qa 5 K M fun _ K=>?_;refine p1 K (Qi rfl (Qq (M.QX Q0 hrow.QH) (Qb JU rfl))) fun _ K=>?_;refine Qa 1 K M fun _ K=>?_;obtain⟨n17,hn17⟩:=YY S i Qe;refine oI (Jb.mem M hrd Q0) (by rw[List.getElem?_map,hn17];rfl) K UR Yi rfl rfl rfl fun _ _ _ _ K=>?_;refine p1 K (KL rfl (Rf n17)) fun _ K=>?_;refine au 7 K M ?_;intro c5 _ _ K _ M;refine Ze K rfl (fun h22=>?_) fun h22=>?_
 ·have hb22:=h22;refine Qa 3 K M ?_;exact⟨⟨n17,hn17,by rw[if_pos h22]⟩,M.qt⟩
 have hb22:=h22;refine Qa 1 K M ?_;exact⟨⟨n17,hn17,by rw[if_neg (by rw[h22];decide)]⟩,M.qt⟩

theorem yv(hf:Qh st)(hS:Y6 st F sp Tn S)(hi:i<S.length){t l h:Nat}(hn:S[i]? =some (.fork t l h)): ∃v st',QP 342 [.ptr sp 0 0,iN i] st v st'∧v=.tup [iN l,iN h]∧Qt st st':=by
 obtain⟨ks,cm,hrow,hrd,hlen,hbn⟩:=hS.at_.rd;refine Jy Tryz.func342 Tryz.ntmps342 fun T K=>?_;have M:=Mem.start hf;refine Qa 4 K M fun _ K=>?_;refine oQ K M (LO M.fresh (hS.q M.qt) hi) rfl rfl fun _ _ K M=>?_;refine Qa 5 K M fun _ K=>?_;refine p1 K (Qi rfl (Qq (M.QX Q0 hrow.QH) (Qb JU rfl))) fun _ K=>?_;refine Qa 1 K M fun _ K=>?_;obtain⟨n18,hn18⟩:=YY S i Qe;refine oI (Jb.mem M hrd Q0) (by rw[List.getElem?_map,hn18];rfl) K UR Yi rfl rfl rfl fun _ _ _ _ K=>?_;refine p1 K (KL rfl (Rf n18)) fun _ K=>?_;refine au 7 K M ?_;intro c6 _ _ K _ M;refine Ze K rfl (fun h23=>?_) fun h23=>?_
 ·have hb23:=h23;refine ZG ?_;refine QU (l:=[(0,0),(1,0),(2,0),(3,0),(4,0),(5,0)]) (by kernel_rfl) ?_;refine Yq 6 K M fun _ K=>?_;refine Ji ?_;show W _ _ _ _ _ _ _;refine Qa 0 K M ?_
  rw[hn]at hn18;injection hn18 with hn18;subst hn18
  exact⟨rfl,M.qt⟩
 have hb23:=h23
 (rw[hn]at hn18;injection hn18 with hn18;subst hn18;cases h23)

theorem TF(hf:Qh st)(v0:Int)(u w:AV): ∃v st',QP 379 [.agg [iZ v0],u,w] st v st'∧v=iZ v0∧Qt st st':=by
 refine Jy Tryz.func379 Tryz.ntmps379 fun T K=>?_;have M:=Mem.start hf;refine au 5 K M ?_;intro c3 _ _ K _ M;refine Qa 0 K M ?_;exact⟨rfl,M.qt⟩

theorem TZ(hf:Qh st)(hS:Y6 st F sp Tn S)(h6:Tn≤6)(wf:Zy Tn S){t l h:Nat}(hn:S[i]? =some (.fork t l h))(hc:c≤4611686018427387904)(ih: ∀j,j<i→lk F sp Tn S c j): ∃v st',QP 380 [.agg [iN t,iN l,iN h],.ptr sp 0 0,iN c] st v st'∧v=iZ (UH S i c)∧Qt st st':=by
 obtain⟨ks,cm,hrow,hrd,hlen,hbn⟩:=hS.at_.rd;obtain⟨w1,w2,w3,w4,w5,w6⟩:=wf.fork _ _ _ _ hn;have hil:=(List.getElem?_eq_some_iff.1 hn).1;refine Jy Tryz.func380 Tryz.ntmps380 fun T K=>?_;have M:=Mem.start hf;refine au 5 K M ?_;intro c3 _ _ K _ M;refine p1 K (Gw (a:=c) (n:=t) rfl rfl Qe) fun _ K=>p1 K (Gy (a:=(c/2^t)) rfl rfl (Nat.le_trans (Nat.div_le_self _ _) Qe)) fun _ K=>?_;refine Qa 1 K M fun _ K=>?_;refine UA K rfl (fun h12=>?_) fun h12=>?_
 ·refine ZG ?_;refine QU (l:=[(0,0),(1,0),(2,0),(3,0),(4,0),(5,0),(6,0),(7,0),(8,0),(9,0),(10,0),(11,0)]) (by kernel_rfl) ?_;refine Yq 3 K M fun _ K=>?_;refine q1 rfl K (Qi rfl (Qq (M.QX Q0 hrow.QH) (Qb JU rfl))) fun _ K=>?_;refine Yq 2 K M fun _ K=>?_;obtain⟨n19,hn19⟩:=YY S h Qe;refine dI rfl rfl (Jb.mem M hrd Q0) (by rw[List.getElem?_map,hn19];rfl) K UR Yi rfl rfl rfl fun _ _ _ _ K=>?_;refine Yq 2 K M fun _ K=>?_;obtain⟨tt23,uu23,ff23,v23,st23,ei23,em23,ev23,rfl,q23⟩:=ih h Qe _ _ M.fresh (hS.q M.qt) hn19;refine qA rfl K (Hk (show QE _ _ _=_ from congrArg some ei23) em23 rfl ev23) fun _ K=>?_;replace M:=M.quiet q23;refine q1 rfl K (Ys rfl) fun _ K=>Ji ?_;show W _ _ _ _ _ _ _;refine Qa 0 K M ?_;exact⟨by rw[Vc wf hn,if_pos ((Sx c t).1 h12)],M.qt⟩
 refine Qa 0 K M fun _ K=>?_;refine QU (l:=[(0,0),(1,0),(2,0),(3,0),(4,0),(5,0),(6,0),(7,0),(8,0),(9,0),(10,0),(11,0)]) (by kernel_rfl) ?_;refine Yq 3 K M fun _ K=>?_;refine q1 rfl K (Qi rfl (Qq (M.QX Q0 hrow.QH) (Qb JU rfl))) fun _ K=>?_;refine Yq 2 K M fun _ K=>?_;obtain⟨n30,hn30⟩:=YY S l Qe;refine dI rfl rfl (Jb.mem M hrd Q0) (by rw[List.getElem?_map,hn30];rfl) K UR Yi rfl rfl rfl fun _ _ _ _ K=>?_;refine Yq 2 K M fun _ K=>?_;obtain⟨tt34,uu34,ff34,v34,st34,ei34,em34,ev34,rfl,q34⟩:=ih l Qe _ _ M.fresh (hS.q M.qt) hn30;refine qA rfl K (Hk (show QE _ _ _=_ from congrArg some ei34) em34 rfl ev34) fun _ K=>?_;replace M:=M.quiet q34;refine q1 rfl K (Ys rfl) fun _ K=>Ji ?_;show W _ _ _ _ _ _ _;refine Qa 0 K M ?_;exact⟨by rw[Vc wf hn,if_neg fun hb=>h12 ((Sx c t).2 hb)],M.qt⟩

theorem aH(h6:Tn≤6)(wf:Zy Tn S)(hc:c≤4611686018427387904): ∀j,j<S.length→lk F sp Tn S c j:=by
 intro j
 induction j using Nat.strongRecOn with
 |_ j ih=>
  intro hj st n hf hS hn
  cases n with
  |leaf v=>
   obtain⟨v',st',ev,rfl,q⟩:=TF hf v (.ptr sp 0 0) (.int .i64 (c:Nat));exact⟨_,_,_,_,st',rfl,xj,ev,by rw[Vb hn],q⟩
  |fork t l h=>
   obtain⟨v',st',ev,rfl,q⟩:=TZ hf hS h6 wf hn hc fun k hk=>ih k hk Qe;exact⟨_,_,_,_,st',rfl,xk,ev,rfl,q⟩

theorem yx(hf:Qh st)(hS:Y6 st F sp Tn S)(h6:Tn≤6)(wf:Zy Tn S)(hi:i<S.length)(hc:c<2^Tn): ∃v st',QP 263 [.ptr sp 0 0,iN i,iN c] st v st'∧v=iZ (UH S i c)∧Qt st st':=by
 obtain⟨ks,cm,hrow,hrd,hlen,hbn⟩:=hS.at_.rd;have hp:=Cc (show Tn≤62 by omega);refine Jy Tryz.func263 Tryz.ntmps263 fun T K=>?_;have M:=Mem.start hf;refine Qa 3 K M fun _ K=>?_;refine oQ K M (LO M.fresh (hS.q M.qt) hi) rfl rfl fun _ _ K M=>?_;refine Qa 5 K M fun _ K=>?_;refine Uz K rfl (fun _ e15 K=>?_) fun _ e15 K=>?_
 ·refine Qa 2 K M fun _ K=>?_;obtain⟨v18,st18,ev18,rfl,q18⟩:=Ws M.fresh (hS.q M.qt);refine pg K rfl rfl (Qg rfl ev18) fun _ K=>?_;replace M:=M.quiet q18;refine pg K rfl rfl (ZB (n:=Tn) rfl rfl Qe) fun _ K=>?_;refine Qa 2 K M fun _ K=>?_;refine UA K rfl (fun h21=>?_) fun h21=>?_
  ·exfalso;omega
  refine Qa 3 K M fun _ K=>?_;refine p1 K (Qi rfl (Qq (M.QX Q0 hrow.QH) (Qb JU rfl))) fun _ K=>?_;refine Qa 1 K M fun _ K=>?_;obtain⟨n27,hn27⟩:=YY S i Qe;refine oI (Jb.mem M hrd Q0) (by rw[List.getElem?_map,hn27];rfl) K UR Yi rfl rfl rfl fun _ _ _ _ K=>?_;refine Qa 2 K M fun _ K=>?_;obtain⟨tt31,uu31,ff31,v31,st31,ei31,em31,ev31,rfl,q31⟩:=aH (c:=c) h6 wf Qe _ hi _ _ M.fresh (hS.q M.qt) hn27;refine p1 K (Hk (show QE _ _ _=_ from congrArg some ei31) em31 rfl ev31) fun _ K=>?_;replace M:=M.quiet q31;refine Qa 1 K M ?_;exact⟨rfl,M.qt⟩
 exfalso;omega
end
end Go.Proofs.YtildagdnomiahaaGreatDoor
