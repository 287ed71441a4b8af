/-
  What hangs on letters, in memory.
-/
import Derived.Test.YtiknomepbklibaaGreatDoorQhBdP
import Derived.Test.YtiknomepbklibaaGreatDoorQhR14
set_option maxRecDepth 100000
set_option linter.unnecessarySimpa false
set_option linter.unusedSimpArgs false
set_option linter.unusedVariables false
namespace Go.Proofs.YtiknomepbklibaaGreatDoor
section
open Go Go.RowKit

def EO:Bn→AV
 |.leaf v=>.ifc 193 (.agg [.int .i64 v])
 |.fork t l h=>.ifc 195 (.agg [.int .i64 (t:Nat),.int .i64 (l:Nat),.int .i64 (h:Nat)])
theorem Pz(n:Bn):Qs (EO n)=true:=by cases n<;>rfl
theorem BP(u:AV):N3 Tryz.prog 193 u=some (.ifc 193 u):=by kernel_rfl
theorem BQ(u:AV):N3 Tryz.prog 195 u=some (.ifc 195 u):=by kernel_rfl
theorem zp(u:AV):KI Tryz.prog (.ifc 195 u) 195 true=some (.tup [u,.bool true]):=by kernel_rfl
theorem zo(u:AV):KI Tryz.prog (.ifc 193 u) 195 true=some (.tup [.agg [.int .i64 0,.int .i64 0,.int .i64 0],.bool false]):=by kernel_rfl
theorem xY:Ai Tryz.prog 193 "sibyl/bdd.at" =some 211:=by kernel_rfl
theorem xZ:Ai Tryz.prog 195 "sibyl/bdd.at" =some 212:=by kernel_rfl
theorem NW(a b:Int):Y2 Tryz.prog 193 [.int .i64 a] [.int .i64 b]=Qj (Hb a b) (some true) (some false):=by kernel_rfl
theorem NX(a b c x y z:Int):Y2 Tryz.prog 195 [.int .i64 a,.int .i64 b,.int .i64 c] [.int .i64 x,.int .i64 y,.int .i64 z]=Qj (Hb a x) (Qj (Hb b y) (Qj (Hb c z) (some true) (some false)) (some false)) (some false):=by kernel_rfl
theorem RN(l:List AV):KA Tryz.prog (.ifc 193 (.agg l))=aE (Y2 Tryz.prog 193 l l):=by kernel_rfl
theorem RO(l:List AV):KA Tryz.prog (.ifc 195 (.agg l))=aE (Y2 Tryz.prog 195 l l):=by kernel_rfl
theorem yj(a b:List AV):FI Tryz.prog (.ifc 193 (.agg a)) (.ifc 193 (.agg b))=WW (Y2 Tryz.prog 193 a b) a b:=by kernel_rfl
theorem ym(a b:List AV):FI Tryz.prog (.ifc 195 (.agg a)) (.ifc 195 (.agg b))=WW (Y2 Tryz.prog 195 a b) a b:=by kernel_rfl
theorem yk(a b:List AV):FI Tryz.prog (.ifc 193 (.agg a)) (.ifc 195 (.agg b))=some false:=by kernel_rfl
theorem yl(a b:List AV):FI Tryz.prog (.ifc 195 (.agg a)) (.ifc 193 (.agg b))=some false:=by kernel_rfl
theorem jh: ∃ms,Tryz.prog.underlying 132=some (.interface ms):=⟨_,Tryz.underlying132⟩
theorem zY:Tryz.prog.underlying 123=some (.map 132 3):=by kernel_rfl
theorem uZ:VQ Tryz.prog 123 EO (.int .i64 0):=by
 obtain⟨ms,hu⟩:=jh
 have eb: ∀(a:Int),Hb a a=true:=fun a=>by rw[Yy];exact decide_eq_true rfl
 refine⟨132,3,.interface ms,zY,hu,by kernel_rfl,fun a=>?_,fun a i=>rfl,fun a b v n es i=>?_⟩
 ·cases a with
  |leaf v=>
   show KA Tryz.prog (.ifc 193 (.agg [.int .i64 v]))=true;rw[RN,NW,eb];rfl
  |fork t l h=>
   show KA Tryz.prog (.ifc 195 (.agg [.int .i64 (t:Nat),.int .i64 (l:Nat),.int .i64 (h:Nat)]))=true;rw[RO,NX,eb,eb,eb];rfl
 ·have e:Y1 Tryz.prog 132 (.interface ms) (EO a) ((EO b,v,n)::es) i=ob (FI Tryz.prog (EO a) (EO b)) fun q=>Qj q (some (some (i,v))) (Y1 Tryz.prog 132 (.interface ms) (EO a) es (i+1)):=by
   exact Ez _ _ _ _ _ _ _
  have e2:(a=b→FI Tryz.prog (EO a) (EO b)=some true)∧(a≠b→FI Tryz.prog (EO a) (EO b)=some false):=by
   cases a with
   |leaf x=>
    cases b with
    |leaf y=>
     rw[EO,EO,yj,NW,Yy]
     by_cases h:x=y
     ·subst h;exact⟨fun _=>by simp[Qz,WW,Gf,Ou,WV,eb,QO],fun h=>absurd rfl h⟩
     ·exact⟨fun e=>by injection e with e;exact absurd e h,fun _=>by simp[h,Qu,WW]⟩
    |fork t l h'=>rw[EO,EO,yk];exact⟨fun e=>(by cases e),fun _=>rfl⟩
   |fork t l h'=>
    cases b with
    |leaf y=>rw[EO,EO,yl];exact⟨fun e=>(by cases e),fun _=>rfl⟩
    |fork t2 l2 h2=>
     rw[EO,EO,ym,NX,Yy,Yy,Yy]
     by_cases h1:t=t2
     ·by_cases h3:l=l2
      ·by_cases h4:h'=h2
       ·subst h1 h3 h4;exact⟨fun _=>by simp[Qz,WW,Gf,Ou,WV,eb,QO],fun h=>absurd rfl h⟩
       ·exact⟨fun e=>by injection e with _ _ e;exact absurd e h4,fun _=>by simp[h1,h3,show¬((h':Int)=(h2:Int)) by omega,Qz,Qu,WW]⟩
      ·exact⟨fun e=>by injection e with _ e;exact absurd e h3,fun _=>by simp[h1,show¬((l:Int)=(l2:Int)) by omega,Qz,Qu,WW]⟩
     ·exact⟨fun e=>by injection e with e;exact absurd e h1,fun _=>by simp[show¬((t:Int)=(t2:Int)) by omega,Qu,WW]⟩
  rw[e];refine⟨fun h=>?_,fun h=>?_⟩
  ·rw[e2.1 h];rfl
  ·rw[e2.2 h];rfl
def VC:Nat→U8→List (Bn×AV)
 |_,[]=>[]
 |j,n::S=>(n,.int .i64 (j:Nat))::VC (j+1) S
theorem GR: ∀(j:Nat) (S:U8) (n:Bn),VC j (S++[n])=VC j S++[(n,.int .i64 (j+S.length:Nat))]
 |j,[],n=>by simp[VC]
 |j,x::S,n=>by
  rw[List.cons_append,VC,VC,GR (j+1) S n,List.cons_append,List.length_cons,show j+1+S.length=j+(S.length+1) by omega]
theorem Pe: ∀{j:Nat} {S:U8} {n:Bn} {v:AV},(n,v)∈VC j S→ ∃i:Nat,S[i]? =some n∧v=.int .i64 (j+i:Nat)
 |j,[],n,v,h=>by cases h
 |j,x::S,n,v,h=>by
  rcases List.mem_cons.1 h with e|h
  ·injection e with e1 e2
   subst e1 e2;exact⟨0,rfl,rfl⟩
  ·obtain⟨i,h1,h2⟩:=Pe h;exact⟨i+1,h1,by rw[h2];congr 2;omega⟩
theorem D7: ∀{j:Nat} {S:U8} {n:Bn},n∈S→ ∃v,(n,v)∈VC j S
 |j,[],n,h=>by cases h
 |j,x::S,n,h=>by
  rcases List.mem_cons.1 h with rfl|h
  ·exact⟨_,List.mem_cons_self ..⟩
  ·obtain⟨v,hv⟩:=D7 (j:=j+1) h;exact⟨v,List.mem_cons_of_mem _ hv⟩
theorem vc{S:U8}{n:Bn}(h:Yr (VC 0 S) n=none):n∉S:=fun hm=>by
 obtain⟨v,hv⟩:=D7 (j:=0) hm;exact NA h v hv
theorem vb{S:U8}{n:Bn}{v:AV}(h:Yr (VC 0 S) n=some v): ∃i:Nat,S[i]? =some n∧v=.int .i64 (i:Nat):=by
 obtain⟨i,h1,h2⟩:=Pe (Ly h);exact⟨i,h1,by rw[h2,Nat.zero_add]⟩
def Xn(R:QS):Ob:=⟨fun c=> ∃m l,(c,m,l)∈R,fun h=> ∀c m l,(c,m,l)∈R→Qy h c m l,fun h h' e H c m l hm=>(H c m l hm).frame (e c ⟨m,l,hm⟩)⟩
def AJ(h:Hp)(F:Fp)(sp T:Nat)(S:U8):Prop:=
 ∃ks cm A,Qy h sp 0 [.int .i64 (T:Nat),ks,.mp cm]∧F sp∧F cm∧sp≠cm∧(Wo cm EO (VC 0 S)).H h∧YS A ks (S.map EO)∧ ∀c m l,(c,m,l)∈A→Qy h c m l∧F c∧c≠sp∧c≠cm
theorem AJ.frame{h h':Hp}{F:Fp}{sp T:Nat}{S:U8}(e: ∀c,F c→h' c=h c)(H:AJ h F sp T S):AJ h' F sp T S:=by
 obtain⟨ks,cm,A,h1,h2,h3,h4,h5,h6,h7⟩:=H;exact⟨ks,cm,A,h1.frame (e sp h2),h2,h3,h4,(Wo cm EO (VC 0 S)).fr _ _ (fun c hc=>by have hc:c=cm:=hc;rw[hc];exact e cm h3) h5,h6,fun c m l hm=>⟨(h7 c m l hm).1.frame (e c (h7 c m l hm).2.1),(h7 c m l hm).2⟩⟩
def X9(F:Fp)(sp T:Nat)(S:U8):Ob:=⟨F,fun h=>AJ h F sp T S,fun _ _ e H=>H.frame e⟩
theorem AJ.rd{h:Hp}{F:Fp}{sp T:Nat}{S:U8}(H:AJ h F sp T S): ∃ks cm,Qy h sp 0 [.int .i64 (T:Nat),ks,.mp cm]∧Jj h [] 1 (S.map fun n=>[EO n]) ks∧YE ks=some S.length∧S.length≤1000000000:=by
 obtain⟨ks,cm,A,h1,h2,h3,h4,h5,h6,h7⟩:=H;have hr:=h6.rd fun c m l hm=>(h7 c m l hm).1;have hl:=h6.len;rw[List.length_map]at hl;rw[List.map_map]at hr;refine⟨ks,cm,h1,hr,hl,?_⟩;generalize hv:S.map EO=vs at h6;have hl2:=congrArg List.length hv;rw[List.length_map]at hl2
 cases h6 with
 |none=>rw[hl2];simp
 |own hb=>rw[hl2];exact hb
section
variable {st0 st:St} {X0:Fp} {M:QS} {Os:List Ob} {F:Fp} {sp T cm:Nat} {S:U8} {ks:AV} {A:QS}
theorem Qk.aY(B:Qk st0 X0 st M (X9 F sp T S::Os)): ∃ks cm A,Qk st0 X0 st (((sp,0,[.int .i64 (T:Nat),ks,.mp cm])::A)++M) (Wo cm EO (VC 0 S)::Os)∧YS A ks (S.map EO):=by
 obtain⟨ks,cm,A,h1,h2,h3,h4,h5,h6,h7⟩:=B.at_ (k:=0) rfl;refine⟨ks,cm,A,B.wC (fun c m l hm=>?_) ?_ h5 (fun c hc=>by have hc:c=cm:=hc;rw[hc];exact h3) fun c m l hm hc=>?_,h6⟩
 ·rcases List.mem_cons.1 hm with e|hm
  ·injection e with e1 e;injection e with e2 e3;subst e1 e2 e3
   exact⟨h1,h2⟩
  ·exact⟨(h7 c m l hm).1,(h7 c m l hm).2.1⟩
 ·rw[List.map_cons];refine List.nodup_cons.2 ⟨fun hm=>?_,h6.nodup⟩;obtain⟨⟨c,m,l⟩,e1,e2⟩:=List.mem_map.1 hm;exact(h7 c m l e1).2.2.1 e2
 ·have hc:c=cm:=hc;subst hc;rcases List.mem_cons.1 hm with e|hm
  ·injection e with e1 e;exact h4 e1.symm
  ·exact(h7 _ m l hm).2.2.2 rfl
theorem Qk.Si(B:Qk st0 X0 st (((sp,0,[.int .i64 (T:Nat),ks,.mp cm])::A)++M) (Wo cm EO (VC 0 S)::Os))(hA:YS A ks (S.map EO)): ∃F,Qk st0 X0 st M (X9 F sp T S::Os):=by
 have hnd:=B.nodup;rw[List.cons_append,List.map_cons]at hnd;have hn1:=(List.nodup_cons.1 hnd).1;have hdj: ∀c m l,(c,m,l)∈((sp,0,[.int .i64 (T:Nat),ks,.mp cm])::A)++M→c≠cm:=fun c m l hm e=>B.djM (Wo cm EO (VC 0 S)) Q7 c m l hm e;have B1:=B.freeze (o:=Xn ((sp,0,[.int .i64 (T:Nat),ks,.mp cm])::A)) (fun c m l hm=>B.row c m l (List.mem_append_left _ hm)) (fun c hc=>hc);refine⟨fun c=>(Xn ((sp,0,[.int .i64 (T:Nat),ks,.mp cm])::A)).F c∨c=cm,B1.join (fun h1 h2=>?_) fun c hc=>hc⟩;refine⟨ks,cm,A,h1 _ _ _ Q7,.inl ⟨_,_,List.mem_cons_self ..⟩,.inr rfl,fun e=>?_,h2,hA,fun c m l hm=>⟨h1 _ _ _ (List.mem_cons_of_mem _ hm),.inl ⟨m,l,List.mem_cons_of_mem _ hm⟩,fun e=>?_,fun e=>?_⟩⟩
 ·exact hdj sp _ _ (List.mem_cons_self ..) e
 ·subst e;exact hn1 (List.mem_map.2 ⟨(_,m,l),List.mem_append_left _ hm,rfl⟩)
 ·exact hdj c m l (by simp[hm]) e
end
def XU(st st':St)(F:Fp)(sp T:Nat)(S':U8):Prop:= ∃F',AJ st'.h.get F' sp T S'∧Ef st st' F F'∧US F st st'
theorem Qk.Nq{st0 st:St}{F F':Fp}{M:QS}{Os:List Ob}{sp T:Nat}{S':U8}(B:Qk st0 F st M (X9 F' sp T S'::Os)):XU st0 st F sp T S':=
 ⟨F',B.at_ (k:=0) rfl,fun c hc=>⟨(B.Lx (k:=0) rfl c hc).symm,B.Y4 (k:=0) rfl c hc⟩,B.JN⟩
theorem Qk.We{st0 st st':St}{X0 F:Fp}{M:QS}{Os:List Ob}{sp T:Nat}{S S':U8}(B:Qk st0 X0 st M (X9 F sp T S::Os))(h:XU st st' F sp T S'): ∃F',Qk st0 X0 st' M (X9 F' sp T S'::Os):=by
 obtain⟨F',h1,h2,h3⟩:=h;exact⟨F',B.call (k:=0) rfl h3 (o':=X9 F' sp T S') h1 h2⟩
theorem CA.app{S:U8}{n:Bn}(h:n∉S):CA S n S.length (S++[n]):=.inr ⟨h,rfl,rfl⟩
theorem BS(S:U8)(n:Bn):S.map EO++[EO n]=(S++[n]).map EO:=by simp
end
section
open Go Go.RowKit
set_option maxHeartbeats 8000000
variable {F:Fp} {S:U8} {Tn c i sp:Nat} {st:St}

structure Zm(st:St)(F:Fp)(sp T:Nat)(S:U8):Prop where
 at_:AJ st.h.get F sp T S
 hi: ∀c,F c→c<st.n
theorem Zm.q{st st':St}{F:Fp}{sp T:Nat}{S:U8}(hS:Zm st F sp T S)(q:Qt st st'):Zm st' F sp T S:=⟨hS.at_.frame fun c hc=>q.JB c (hS.hi c hc),fun c hc=>Nat.lt_of_lt_of_le (hS.hi c hc) q.le⟩
theorem Qk.Kq{st0:St}{X0:Fp}{M:QS}{Os:List Ob}{T:Nat}(B:Qk st0 X0 st M Os){k:Nat}(hk:Os[k]? =some (X9 F sp T S)):Zm st F sp T S:=⟨B.at_ hk,B.Y4 hk⟩
def P0:Bn→Int
 |.leaf _=>0
 |.fork t _ _=>((t:Nat):Int)
def fU:Bn→Nat
 |.leaf _=>0
 |.fork _ l _=>l
def fV:Bn→Nat
 |.leaf _=>0
 |.fork _ _ h=>h
def Ix:Bn→Bool
 |.leaf _=>false
 |.fork _ _ _=>true
theorem uH{T:Nat}{n:Bn}(h:S[i]? =some n):lvl T S i=if Ix n then(P0 n).toNat else T:=by
 unfold lvl;rw[h];cases n<;>simp[Ix,P0]
theorem Sy(n:Bn):KI Tryz.prog (EO n) 195 true=some (.tup [.agg [.int .i64 (P0 n),.int .i64 (fU n:Nat),.int .i64 (fV n:Nat)],.bool (Ix n)]):=by
 cases n with
 |leaf v=>exact zo _
 |fork t l h=>exact zp _
def il(F:Fp)(sp Tn:Nat)(S:U8)(c j:Nat):Prop:= ∀(st:St) (n:Bn),Qi st→Zm st F sp Tn S→S[j]? =some n→
 ∃t u fid v st',EO n=.ifc t u∧Ai Tryz.prog t "sibyl/bdd.at" =some fid∧Jh fid [u,.ptr sp 0 0,.int .i64 (c:Nat)] st v st'∧v=.int .i64 (Y5 S j c)∧Qt st st'
def IN{α:Type}(p:α→Bool):List α→Nat→Int
 |[],_=> -1
 |k::l,i=>if p k then(i:Int)else IN p l (i+1)
theorem AZ{α:Type}{p:α→Bool}{l:List α}{k:α}(h:l[i]? =some k):IN p (l.drop i) i=if p k then(i:Int)else IN p (l.drop (i+1)) (i+1):=by
 obtain⟨h1,h2⟩:=List.getElem?_eq_some_iff.1 h;rw[List.drop_eq_getElem_cons h1,IN,h2]
theorem DS{α:Type}{p:α→Bool}{l:List α}(h:l.length≤i):IN p (l.drop i) i= -1:=by rw[List.drop_eq_nil_of_le h];rfl
theorem DT{α:Type}(p:α→Bool): ∀(l:List α) (i:Nat),decide (0≤IN p l i)=l.any p:=by
 intro l
 induction l with
 |nil=>intro i;rfl
 |cons k l ih=>
  intro i;rw[IN,List.any_cons]
  cases hp:p k with
  |true=>rw[if_pos rfl];simp
  |false=>rw[if_neg Q9,ih];rfl

theorem VK(hf:Qi st)(hS:Zm st F sp Tn S): ∃v st',Jh 64 [.ptr sp 0 0] st v st'∧v=iN Tn∧Qt st st':=by
 obtain⟨ks,cm,hrow,hrd,hlen,hbn⟩:=hS.at_.rd;refine JA Tryz.func64 Tryz.ntmps64 fun T K=>?_;have M:=Mem.start hf;refine Qb 2 K M fun _ K=>?_;refine p1 K (Yh ZS rfl rfl) fun _ K=>?_;refine Qb 4 K M fun _ K=>?_;refine p1 K (Qf rfl (Qx (M.JH Q7 hrow.Jd) (Qd Qn rfl))) fun _ K=>?_;refine Qb 1 K M ?_;exact⟨rfl,M.qt⟩

theorem TX(hf:Qi st)(hS:Zm st F sp Tn S): ∃v st',Jh 97 [.ptr sp 0 0] st v st'∧v=iZ (S.length:Nat)∧Qt st st':=by
 obtain⟨ks,cm,hrow,hrd,hlen,hbn⟩:=hS.at_.rd;refine JA Tryz.func97 Tryz.ntmps97 fun T K=>?_;have M:=Mem.start hf;refine Qb 2 K M fun _ K=>?_;refine p1 K (Yh ZS rfl rfl) fun _ K=>?_;refine Qb 4 K M fun _ K=>?_;refine p1 K (Qf rfl (Qx (M.JH Q7 hrow.Jd) (Qd UF rfl))) fun _ K=>p1 K (Q5 Xz rfl rfl hlen) fun _ K=>?_;refine Qb 1 K M ?_;exact⟨rfl,M.qt⟩

theorem Kb(hf:Qi st)(hS:Zm st F sp Tn S)(hi:i<S.length): ∃v st',Jh 73 [.ptr sp 0 0,iN i] st v st'∧v=.bool true∧Qt st st':=by
 obtain⟨ks,cm,hrow,hrd,hlen,hbn⟩:=hS.at_.rd;refine JA Tryz.func73 Tryz.ntmps73 fun T K=>?_;have M:=Mem.start hf;refine Qb 3 K M fun _ K=>?_;refine Uj K rfl (fun _ e7 K=>?_) fun _ e7 K=>?_
 ·exfalso;omega
 refine Qb 2 K M fun _ K=>?_;obtain⟨v10,st10,ev10,rfl,q10⟩:=TX M.fresh (hS.q M.qt);refine pg K rfl rfl (Qg rfl ev10) fun _ K=>?_;replace M:=M.quiet q10;refine Qb 3 K M ?_;exact⟨congrArg AV.bool (decide_eq_true Qc),M.qt⟩

theorem Bb(hf:Qi st)(hS:Zm st F sp Tn S)(hi:i<S.length)(t:Nat)(ht:t<Tn): ∃v st',Jh 151 [.ptr sp 0 0,iN i,iN t] st v st'∧v=.bool (decide (t<lvl Tn S i))∧Qt st st':=by
 obtain⟨ks,cm,hrow,hrd,hlen,hbn⟩:=hS.at_.rd;refine JA Tryz.func151 Tryz.ntmps151 fun T K=>?_;have M:=Mem.start hf;refine Qb 3 K M fun _ K=>?_;refine oQ K M (Kb M.fresh (hS.q M.qt) hi) rfl rfl fun _ _ K M=>?_;refine Qb 5 K M fun _ K=>?_;refine p1 K (Qf rfl (Qx (M.JH Q7 hrow.Jd) (Qd UF rfl))) fun _ K=>?_;refine Qb 1 K M fun _ K=>?_;obtain⟨n19,hn19⟩:=Uw S i Qc;refine oI (Jj.mem M hrd Q7) (by rw[List.getElem?_map,hn19];rfl) K YI YV rfl rfl rfl fun _ _ _ _ K=>?_;refine p1 K (Nv rfl (Sy n19)) fun _ K=>?_;refine au 8 K M ?_;intro c7 _ _ K _ M;refine oB K (Q0 rfl) rfl fun b26 _ e26 K=>?_;cases b26
 ·replace e26:((Ix n19))=true:=by simpa using e26
  refine Qb 6 K M ?_;refine⟨?_,M.qt⟩;rw[uH hn19]
  cases n19 with
  |leaf v=>first|(cases e26;done)|(rw[if_neg (show¬Ix (Bn.leaf v)=true by simp[Ix]),decide_eq_true ht];rfl)
  |fork t' l h=>first|(cases e26;done)|(refine congrArg AV.bool (decide_eq_decide.2 ?_);rw[if_pos (show Ix (Bn.fork t' l h)=true from rfl)];simp only[P0];omega)
 replace e26:((Ix n19))=false:=by simpa using e26
 refine Qb 6 K M ?_;refine⟨?_,M.qt⟩;rw[uH hn19]
 cases n19 with
 |leaf v=>first|(cases e26;done)|(rw[if_neg (show¬Ix (Bn.leaf v)=true by simp[Ix]),decide_eq_true ht];rfl)
 |fork t' l h=>first|(cases e26;done)|(refine congrArg AV.bool (decide_eq_decide.2 ?_);rw[if_pos (show Ix (Bn.fork t' l h)=true from rfl)];simp only[P0];omega)

theorem qL(hf:Qi st)(hS:Zm st F sp Tn S)(hi:i<S.length): ∃v st',Jh 191 [.ptr sp 0 0,iN i] st v st'∧(∃n,S[i]? =some n∧v=iZ (if Ix n then P0 n else-1))∧Qt st st':=by
 obtain⟨ks,cm,hrow,hrd,hlen,hbn⟩:=hS.at_.rd;refine JA Tryz.func191 Tryz.ntmps191 fun T K=>?_;have M:=Mem.start hf;refine Qb 3 K M fun _ K=>?_;refine oQ K M (Kb M.fresh (hS.q M.qt) hi) rfl rfl fun _ _ K M=>?_;refine Qb 5 K M fun _ K=>?_;refine p1 K (Qf rfl (Qx (M.JH Q7 hrow.Jd) (Qd UF rfl))) fun _ K=>?_;refine Qb 1 K M fun _ K=>?_;obtain⟨n17,hn17⟩:=Uw S i Qc;refine oI (Jj.mem M hrd Q7) (by rw[List.getElem?_map,hn17];rfl) K YI YV rfl rfl rfl fun _ _ _ _ K=>?_;refine p1 K (Nv rfl (Sy n17)) fun _ K=>?_;refine au 7 K M ?_;intro c5 _ _ K _ M;refine Qp (K.QG rfl) (fun h22=>?_) (fun h22=>?_)
 ·have hb22:=h22;refine Qb 3 K M ?_;exact⟨⟨n17,hn17,by rw[if_pos h22]⟩,M.qt⟩
 have hb22:=h22;refine Qb 1 K M ?_;exact⟨⟨n17,hn17,by rw[if_neg (by rw[h22];decide)]⟩,M.qt⟩

theorem zi(hf:Qi st)(hS:Zm st F sp Tn S)(hi:i<S.length){t l h:Nat}(hn:S[i]? =some (.fork t l h)): ∃v st',Jh 192 [.ptr sp 0 0,iN i] st v st'∧v=.tup [iN l,iN h]∧Qt st st':=by
 obtain⟨ks,cm,hrow,hrd,hlen,hbn⟩:=hS.at_.rd;refine JA Tryz.func192 Tryz.ntmps192 fun T K=>?_;have M:=Mem.start hf;refine Qb 4 K M fun _ K=>?_;refine oQ K M (Kb M.fresh (hS.q M.qt) hi) rfl rfl fun _ _ K M=>?_;refine Qb 5 K M fun _ K=>?_;refine p1 K (Qf rfl (Qx (M.JH Q7 hrow.Jd) (Qd UF rfl))) fun _ K=>?_;refine Qb 1 K M fun _ K=>?_;obtain⟨n18,hn18⟩:=Uw S i Qc;refine oI (Jj.mem M hrd Q7) (by rw[List.getElem?_map,hn18];rfl) K YI YV rfl rfl rfl fun _ _ _ _ K=>?_;refine p1 K (Nv rfl (Sy n18)) fun _ K=>?_;refine au 7 K M ?_;intro c6 _ _ K _ M;refine Qp (K.QG rfl) (fun h23=>?_) (fun h23=>?_)
 ·have hb23:=h23;refine Jz ?_;refine QC (l:=[(0,0),(1,0),(2,0),(3,0),(4,0),(5,0)]) (by kernel_rfl) ?_;refine Jo 6 K M fun _ K=>?_;refine QF ?_;show W _ _ _ _ _ _ _;refine Qb 0 K M ?_
  rw[hn]at hn18;injection hn18 with hn18;subst hn18
  exact⟨rfl,M.qt⟩
 have hb23:=h23
 (rw[hn]at hn18;injection hn18 with hn18;subst hn18;cases h23)

theorem MX(hf:Qi st)(v0:Int)(u w:AV): ∃v st',Jh 211 [.agg [iZ v0],u,w] st v st'∧v=iZ v0∧Qt st st':=by
 refine JA Tryz.func211 Tryz.ntmps211 fun T K=>?_;have M:=Mem.start hf;refine au 5 K M ?_;intro c3 _ _ K _ M;refine Qb 0 K M ?_;exact⟨rfl,M.qt⟩

theorem qq(hf:Qi st)(hS:Zm st F sp Tn S)(h6:Tn≤6)(wf:Xk Tn S){t l h:Nat}(hn:S[i]? =some (.fork t l h))(hc:c≤4611686018427387904)(ih: ∀j,j<i→il F sp Tn S c j): ∃v st',Jh 212 [.agg [iN t,iN l,iN h],.ptr sp 0 0,iN c] st v st'∧v=iZ (Y5 S i c)∧Qt st st':=by
 obtain⟨ks,cm,hrow,hrd,hlen,hbn⟩:=hS.at_.rd;obtain⟨w1,w2,w3,w4,w5,w6⟩:=wf.fork _ _ _ _ hn;have hil:=(List.getElem?_eq_some_iff.1 hn).1;refine JA Tryz.func212 Tryz.ntmps212 fun T K=>?_;have M:=Mem.start hf;refine au 5 K M ?_;intro c3 _ _ K _ M;refine p1 K (ZV (a:=c) (n:=t) rfl rfl Qc) fun _ K=>p1 K (Zz (a:=(c/2^t)) rfl rfl (Nat.le_trans (Nat.div_le_self _ _) Qc)) fun _ K=>?_;refine Qb 1 K M fun _ K=>?_;refine Jy K rfl (fun h12=>?_) fun h12=>?_
 ·refine Jz ?_;refine QC (l:=[(0,0),(1,0),(2,0),(3,0),(4,0),(5,0),(6,0),(7,0),(8,0),(9,0),(10,0),(11,0)]) (by kernel_rfl) ?_;refine Jo 3 K M fun _ K=>?_;refine q1 rfl K (Qf rfl (Qx (M.JH Q7 hrow.Jd) (Qd UF rfl))) fun _ K=>?_;refine Jo 2 K M fun _ K=>?_;obtain⟨n19,hn19⟩:=Uw S h Qc;refine dI rfl rfl (Jj.mem M hrd Q7) (by rw[List.getElem?_map,hn19];rfl) K YI YV rfl rfl rfl fun _ _ _ _ K=>?_;refine Jo 2 K M fun _ K=>?_;obtain⟨tt23,uu23,ff23,v23,st23,ei23,em23,ev23,rfl,q23⟩:=ih h Qc _ _ M.fresh (hS.q M.qt) hn19;refine qA rfl K (IE (show QV _ _ _=_ from congrArg some ei23) em23 rfl ev23) fun _ K=>?_;replace M:=M.quiet q23;refine q1 rfl K (JW rfl) fun _ K=>QF ?_;show W _ _ _ _ _ _ _;refine Qb 0 K M ?_;exact⟨by rw[Wd wf hn,if_pos ((TQ c t).1 h12)],M.qt⟩
 refine Qb 0 K M fun _ K=>?_;refine QC (l:=[(0,0),(1,0),(2,0),(3,0),(4,0),(5,0),(6,0),(7,0),(8,0),(9,0),(10,0),(11,0)]) (by kernel_rfl) ?_;refine Jo 3 K M fun _ K=>?_;refine q1 rfl K (Qf rfl (Qx (M.JH Q7 hrow.Jd) (Qd UF rfl))) fun _ K=>?_;refine Jo 2 K M fun _ K=>?_;obtain⟨n30,hn30⟩:=Uw S l Qc;refine dI rfl rfl (Jj.mem M hrd Q7) (by rw[List.getElem?_map,hn30];rfl) K YI YV rfl rfl rfl fun _ _ _ _ K=>?_;refine Jo 2 K M fun _ K=>?_;obtain⟨tt34,uu34,ff34,v34,st34,ei34,em34,ev34,rfl,q34⟩:=ih l Qc _ _ M.fresh (hS.q M.qt) hn30;refine qA rfl K (IE (show QV _ _ _=_ from congrArg some ei34) em34 rfl ev34) fun _ K=>?_;replace M:=M.quiet q34;refine q1 rfl K (JW rfl) fun _ K=>QF ?_;show W _ _ _ _ _ _ _;refine Qb 0 K M ?_;exact⟨by rw[Wd wf hn,if_neg fun hb=>h12 ((TQ c t).2 hb)],M.qt⟩

theorem ah(h6:Tn≤6)(wf:Xk Tn S)(hc:c≤4611686018427387904): ∀j,j<S.length→il F sp Tn S c j:=by
 intro j
 induction j using Nat.strongRecOn with
 |_ j ih=>
  intro hj st n hf hS hn
  cases n with
  |leaf v=>
   obtain⟨v',st',ev,rfl,q⟩:=MX hf v (.ptr sp 0 0) (.int .i64 (c:Nat));exact⟨_,_,_,_,st',rfl,xY,ev,by rw[Wc hn],q⟩
  |fork t l h=>
   obtain⟨v',st',ev,rfl,q⟩:=qq hf hS h6 wf hn hc fun k hk=>ih k hk Qc;exact⟨_,_,_,_,st',rfl,xZ,ev,rfl,q⟩

theorem Su(hf:Qi st)(hS:Zm st F sp Tn S)(h6:Tn≤6)(wf:Xk Tn S)(hi:i<S.length)(hc:c<2^Tn): ∃v st',Jh 74 [.ptr sp 0 0,iN i,iN c] st v st'∧v=iZ (Y5 S i c)∧Qt st st':=by
 obtain⟨ks,cm,hrow,hrd,hlen,hbn⟩:=hS.at_.rd;have hp:=Ni (show Tn≤62 by omega);refine JA Tryz.func74 Tryz.ntmps74 fun T K=>?_;have M:=Mem.start hf;refine Qb 3 K M fun _ K=>?_;refine oQ K M (Kb M.fresh (hS.q M.qt) hi) rfl rfl fun _ _ K M=>?_;refine Qb 5 K M fun _ K=>?_;refine Uj K rfl (fun _ e15 K=>?_) fun _ e15 K=>?_
 ·refine Qb 2 K M fun _ K=>?_;obtain⟨v18,st18,ev18,rfl,q18⟩:=VK M.fresh (hS.q M.qt);refine pg K rfl rfl (Qg rfl ev18) fun _ K=>?_;replace M:=M.quiet q18;refine pg K rfl rfl (UU (n:=Tn) rfl rfl Qc) fun _ K=>?_;refine Qb 2 K M fun _ K=>?_;refine Jy K rfl (fun h21=>?_) fun h21=>?_
  ·exfalso;omega
  refine Qb 3 K M fun _ K=>?_;refine p1 K (Qf rfl (Qx (M.JH Q7 hrow.Jd) (Qd UF rfl))) fun _ K=>?_;refine Qb 1 K M fun _ K=>?_;obtain⟨n27,hn27⟩:=Uw S i Qc;refine oI (Jj.mem M hrd Q7) (by rw[List.getElem?_map,hn27];rfl) K YI YV rfl rfl rfl fun _ _ _ _ K=>?_;refine Qb 2 K M fun _ K=>?_;obtain⟨tt31,uu31,ff31,v31,st31,ei31,em31,ev31,rfl,q31⟩:=ah (c:=c) h6 wf Qc _ hi _ _ M.fresh (hS.q M.qt) hn27;refine p1 K (IE (show QV _ _ _=_ from congrArg some ei31) em31 rfl ev31) fun _ K=>?_;replace M:=M.quiet q31;refine Qb 1 K M ?_;exact⟨rfl,M.qt⟩
 exfalso;omega
end
end Go.Proofs.YtiknomepbklibaaGreatDoor
