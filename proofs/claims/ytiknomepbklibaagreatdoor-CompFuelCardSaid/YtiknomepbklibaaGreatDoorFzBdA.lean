/-
  What hangs on letters, in memory.
-/
import Derived.Test.YtiknomepbklibaaGreatDoorFzBdP
import Derived.Test.YtiknomepbklibaaGreatDoorFzR14
set_option maxRecDepth 100000
set_option linter.unnecessarySimpa false
set_option linter.unusedSimpArgs false
set_option linter.unusedVariables false
section
namespace Go.Proofs.YtiknomepbklibaaGreatDoor
open Go Go.RowKit

def E5:Bn→AV
 |.leaf v=>.ifc 193 (.agg [.int .i64 v])
 |.fork t l h=>.ifc 195 (.agg [.int .i64 (t:Nat),.int .i64 (l:Nat),.int .i64 (h:Nat)])
theorem DN(n:Bn):Qu (E5 n)=true:=by cases n<;>rfl
theorem Bi(u:AV):LP Tryz.prog 193 u=some (.ifc 193 u):=by kernel_rfl
theorem Bj(u:AV):LP Tryz.prog 195 u=some (.ifc 195 u):=by kernel_rfl
theorem yc(u:AV):Kd Tryz.prog (.ifc 195 u) 195 true=some (.tup [u,.bool true]):=by kernel_rfl
theorem yb(u:AV):Kd Tryz.prog (.ifc 193 u) 195 true=some (.tup [.agg [.int .i64 0,.int .i64 0,.int .i64 0],.bool false]):=by kernel_rfl
theorem z8:EK Tryz.prog 193 "sibyl/bdd.at" =some 211:=by kernel_rfl
theorem zA:EK Tryz.prog 195 "sibyl/bdd.at" =some 212:=by kernel_rfl
theorem Nw(a b:Int):Yw Tryz.prog 193 [.int .i64 a] [.int .i64 b]=Qo (F9 a b) (some true) (some false):=by kernel_rfl
theorem Nx(a b c x y z:Int):Yw Tryz.prog 195 [.int .i64 a,.int .i64 b,.int .i64 c] [.int .i64 x,.int .i64 y,.int .i64 z]=Qo (F9 a x) (Qo (F9 b y) (Qo (F9 c z) (some true) (some false)) (some false)) (some false):=by kernel_rfl
theorem Re(l:List AV):IU Tryz.prog (.ifc 193 (.agg l))=wD (Yw Tryz.prog 193 l l):=by kernel_rfl
theorem Rf(l:List AV):IU Tryz.prog (.ifc 195 (.agg l))=wD (Yw Tryz.prog 195 l l):=by kernel_rfl
theorem jW(a b:List AV):Fg Tryz.prog (.ifc 193 (.agg a)) (.ifc 193 (.agg b))=WB (Yw Tryz.prog 193 a b) a b:=by kernel_rfl
theorem jZ(a b:List AV):Fg Tryz.prog (.ifc 195 (.agg a)) (.ifc 195 (.agg b))=WB (Yw Tryz.prog 195 a b) a b:=by kernel_rfl
theorem jX(a b:List AV):Fg Tryz.prog (.ifc 193 (.agg a)) (.ifc 195 (.agg b))=some false:=by kernel_rfl
theorem jY(a b:List AV):Fg Tryz.prog (.ifc 195 (.agg a)) (.ifc 193 (.agg b))=some false:=by kernel_rfl
theorem qb: ∃ms,Tryz.prog.underlying 132=some (.interface ms):=⟨_,Tryz.underlying132⟩
theorem yE:Tryz.prog.underlying 123=some (.map 132 3):=by kernel_rfl
theorem jL:VE Tryz.prog 123 E5 (.int .i64 0):=by
 obtain⟨ms,hu⟩:=qb
 have eb: ∀(a:Int),F9 a a=true:=fun a=>by rw[Yr];exact decide_eq_true rfl
 refine⟨132,3,.interface ms,yE,hu,by kernel_rfl,fun a=>?_,fun a i=>rfl,fun a b v n es i=>?_⟩
 ·cases a with
  |leaf v=>
   show IU Tryz.prog (.ifc 193 (.agg [.int .i64 v]))=true;rw[Re,Nw,eb];rfl
  |fork t l h=>
   show IU Tryz.prog (.ifc 195 (.agg [.int .i64 (t:Nat),.int .i64 (l:Nat),.int .i64 (h:Nat)]))=true;rw[Rf,Nx,eb,eb,eb];rfl
 ·have e:Yv Tryz.prog 132 (.interface ms) (E5 a) ((E5 b,v,n)::es) i=ob (Fg Tryz.prog (E5 a) (E5 b)) fun q=>Qo q (some (some (i,v))) (Yv Tryz.prog 132 (.interface ms) (E5 a) es (i+1)):=by
   exact Ee _ _ _ _ _ _ _
  have e2:(a=b→Fg Tryz.prog (E5 a) (E5 b)=some true)∧(a≠b→Fg Tryz.prog (E5 a) (E5 b)=some false):=by
   cases a with
   |leaf x=>
    cases b with
    |leaf y=>
     rw[E5,E5,jW,Nw,Yr]
     by_cases h:x=y
     ·subst h;exact⟨fun _=>by simp[Q6,WB,O7,NF,WA,eb,QO],fun h=>absurd rfl h⟩
     ·exact⟨fun e=>by injection e with e;exact absurd e h,fun _=>by simp[h,Qx,WB]⟩
    |fork t l h'=>rw[E5,E5,jX];exact⟨fun e=>(by cases e),fun _=>rfl⟩
   |fork t l h'=>
    cases b with
    |leaf y=>rw[E5,E5,jY];exact⟨fun e=>(by cases e),fun _=>rfl⟩
    |fork t2 l2 h2=>
     rw[E5,E5,jZ,Nx,Yr,Yr,Yr]
     by_cases h1:t=t2
     ·by_cases h3:l=l2
      ·by_cases h4:h'=h2
       ·subst h1 h3 h4;exact⟨fun _=>by simp[Q6,WB,O7,NF,WA,eb,QO],fun h=>absurd rfl h⟩
       ·exact⟨fun e=>by injection e with _ _ e;exact absurd e h4,fun _=>by simp[h1,h3,show¬((h':Int)=(h2:Int)) by omega,Q6,Qx,WB]⟩
      ·exact⟨fun e=>by injection e with _ e;exact absurd e h3,fun _=>by simp[h1,show¬((l:Int)=(l2:Int)) by omega,Q6,Qx,WB]⟩
     ·exact⟨fun e=>by injection e with e;exact absurd e h1,fun _=>by simp[show¬((t:Int)=(t2:Int)) by omega,Qx,WB]⟩
  rw[e];refine⟨fun h=>?_,fun h=>?_⟩
  ·rw[e2.1 h];rfl
  ·rw[e2.2 h];rfl
def V3:Nat→UG→List (Bn×AV)
 |_,[]=>[]
 |j,n::S=>(n,.int .i64 (j:Nat))::V3 (j+1) S
theorem Gn: ∀(j:Nat) (S:UG) (n:Bn),V3 j (S++[n])=V3 j S++[(n,.int .i64 (j+S.length:Nat))]
 |j,[],n=>by simp[V3]
 |j,x::S,n=>by
  rw[List.cons_append,V3,V3,Gn (j+1) S n,List.cons_append,List.length_cons,show j+1+S.length=j+(S.length+1) by omega]
theorem D2: ∀{j:Nat} {S:UG} {n:Bn} {v:AV},(n,v)∈V3 j S→ ∃i:Nat,S[i]? =some n∧v=.int .i64 (j+i:Nat)
 |j,[],n,v,h=>by cases h
 |j,x::S,n,v,h=>by
  rcases List.mem_cons.1 h with e|h
  ·injection e with e1 e2
   subst e1 e2;exact⟨0,rfl,rfl⟩
  ·obtain⟨i,h1,h2⟩:=D2 h;exact⟨i+1,h1,by rw[h2];congr 2;omega⟩
theorem CW: ∀{j:Nat} {S:UG} {n:Bn},n∈S→ ∃v,(n,v)∈V3 j S
 |j,[],n,h=>by cases h
 |j,x::S,n,h=>by
  rcases List.mem_cons.1 h with rfl|h
  ·exact⟨_,List.mem_cons_self ..⟩
  ·obtain⟨v,hv⟩:=CW (j:=j+1) h;exact⟨v,List.mem_cons_of_mem _ hv⟩
theorem zE{S:UG}{n:Bn}(h:Yk (V3 0 S) n=none):n∉S:=fun hm=>by
 obtain⟨v,hv⟩:=CW (j:=0) hm;exact LY h v hv
theorem zD{S:UG}{n:Bn}{v:AV}(h:Yk (V3 0 S) n=some v): ∃i:Nat,S[i]? =some n∧v=.int .i64 (i:Nat):=by
 obtain⟨i,h1,h2⟩:=D2 (KU h);exact⟨i,h1,by rw[h2,Nat.zero_add]⟩
def Xc(R:QU):Ob:=⟨fun c=> ∃m l,(c,m,l)∈R,fun h=> ∀c m l,(c,m,l)∈R→Q0 h c m l,fun h h' e H c m l hm=>(H c m l hm).frame (e c ⟨m,l,hm⟩)⟩
def Ap(h:Hp)(F:Fp)(sp T:Nat)(S:UG):Prop:=
 ∃ks cm A,Q0 h sp 0 [.int .i64 (T:Nat),ks,.mp cm]∧F sp∧F cm∧sp≠cm∧(VY cm E5 (V3 0 S)).H h∧YO A ks (S.map E5)∧ ∀c m l,(c,m,l)∈A→Q0 h c m l∧F c∧c≠sp∧c≠cm
theorem Ap.frame{h h':Hp}{F:Fp}{sp T:Nat}{S:UG}(e: ∀c,F c→h' c=h c)(H:Ap h F sp T S):Ap h' F sp T S:=by
 obtain⟨ks,cm,A,h1,h2,h3,h4,h5,h6,h7⟩:=H;exact⟨ks,cm,A,h1.frame (e sp h2),h2,h3,h4,(VY cm E5 (V3 0 S)).fr _ _ (fun c hc=>by have hc:c=cm:=hc;rw[hc];exact e cm h3) h5,h6,fun c m l hm=>⟨(h7 c m l hm).1.frame (e c (h7 c m l hm).2.1),(h7 c m l hm).2⟩⟩
def X2(F:Fp)(sp T:Nat)(S:UG):Ob:=⟨F,fun h=>Ap h F sp T S,fun _ _ e H=>H.frame e⟩
theorem Ap.rd{h:Hp}{F:Fp}{sp T:Nat}{S:UG}(H:Ap h F sp T S): ∃ks cm,Q0 h sp 0 [.int .i64 (T:Nat),ks,.mp cm]∧Ji h [] 1 (S.map fun n=>[E5 n]) ks∧Y8 ks=some S.length∧S.length≤1000000000:=by
 obtain⟨ks,cm,A,h1,h2,h3,h4,h5,h6,h7⟩:=H;have hr:=h6.rd fun c m l hm=>(h7 c m l hm).1;have hl:=h6.len;rw[List.length_map]at hl;rw[List.map_map]at hr;refine⟨ks,cm,h1,hr,hl,?_⟩;generalize hv:S.map E5=vs at h6;have hl2:=congrArg List.length hv;rw[List.length_map]at hl2
 cases h6 with
 |none=>rw[hl2];simp
 |own hb=>rw[hl2];exact hb
section
variable {st0 st:St} {X0:Fp} {M:QU} {Os:List Ob} {F:Fp} {sp T cm:Nat} {S:UG} {ks:AV} {A:QU}
theorem Qk.wV(B:Qk st0 X0 st M (X2 F sp T S::Os)): ∃ks cm A,Qk st0 X0 st (((sp,0,[.int .i64 (T:Nat),ks,.mp cm])::A)++M) (VY cm E5 (V3 0 S)::Os)∧YO A ks (S.map E5):=by
 obtain⟨ks,cm,A,h1,h2,h3,h4,h5,h6,h7⟩:=B.at_ (k:=0) rfl;refine⟨ks,cm,A,B.xT (fun c m l hm=>?_) ?_ h5 (fun c hc=>by have hc:c=cm:=hc;rw[hc];exact h3) fun c m l hm hc=>?_,h6⟩
 ·rcases List.mem_cons.1 hm with e|hm
  ·injection e with e1 e;injection e with e2 e3;subst e1 e2 e3
   exact⟨h1,h2⟩
  ·exact⟨(h7 c m l hm).1,(h7 c m l hm).2.1⟩
 ·rw[List.map_cons];refine List.nodup_cons.2 ⟨fun hm=>?_,h6.nodup⟩;obtain⟨⟨c,m,l⟩,e1,e2⟩:=List.mem_map.1 hm;exact(h7 c m l e1).2.2.1 e2
 ·have hc:c=cm:=hc;subst hc;rcases List.mem_cons.1 hm with e|hm
  ·injection e with e1 e;exact h4 e1.symm
  ·exact(h7 _ m l hm).2.2.2 rfl
theorem Qk.Ru(B:Qk st0 X0 st (((sp,0,[.int .i64 (T:Nat),ks,.mp cm])::A)++M) (VY cm E5 (V3 0 S)::Os))(hA:YO A ks (S.map E5)): ∃F,Qk st0 X0 st M (X2 F sp T S::Os):=by
 have hnd:=B.nodup;rw[List.cons_append,List.map_cons]at hnd;have hn1:=(List.nodup_cons.1 hnd).1;have hdj: ∀c m l,(c,m,l)∈((sp,0,[.int .i64 (T:Nat),ks,.mp cm])::A)++M→c≠cm:=fun c m l hm e=>B.djM (VY cm E5 (V3 0 S)) QA c m l hm e;have B1:=B.freeze (o:=Xc ((sp,0,[.int .i64 (T:Nat),ks,.mp cm])::A)) (fun c m l hm=>B.row c m l (List.mem_append_left _ hm)) (fun c hc=>hc);refine⟨fun c=>(Xc ((sp,0,[.int .i64 (T:Nat),ks,.mp cm])::A)).F c∨c=cm,B1.join (fun h1 h2=>?_) fun c hc=>hc⟩;refine⟨ks,cm,A,h1 _ _ _ QA,.inl ⟨_,_,List.mem_cons_self ..⟩,.inr rfl,fun e=>?_,h2,hA,fun c m l hm=>⟨h1 _ _ _ (List.mem_cons_of_mem _ hm),.inl ⟨m,l,List.mem_cons_of_mem _ hm⟩,fun e=>?_,fun e=>?_⟩⟩
 ·exact hdj sp _ _ (List.mem_cons_self ..) e
 ·subst e;exact hn1 (List.mem_map.2 ⟨(_,m,l),List.mem_append_left _ hm,rfl⟩)
 ·exact hdj c m l (by simp[hm]) e
end
def XM(st st':St)(F:Fp)(sp T:Nat)(S':UG):Prop:= ∃F',Ap st'.h.get F' sp T S'∧WK st st' F F'∧UH F st st'
theorem Qk.LA{st0 st:St}{F F':Fp}{M:QU}{Os:List Ob}{sp T:Nat}{S':UG}(B:Qk st0 F st M (X2 F' sp T S'::Os)):XM st0 st F sp T S':=
 ⟨F',B.at_ (k:=0) rfl,fun c hc=>⟨(B.KT (k:=0) rfl c hc).symm,B.Yu (k:=0) rfl c hc⟩,B.JM⟩
theorem Qk.VO{st0 st st':St}{X0 F:Fp}{M:QU}{Os:List Ob}{sp T:Nat}{S S':UG}(B:Qk st0 X0 st M (X2 F sp T S::Os))(h:XM st st' F sp T S'): ∃F',Qk st0 X0 st' M (X2 F' sp T S'::Os):=by
 obtain⟨F',h1,h2,h3⟩:=h;exact⟨F',B.call (k:=0) rfl h3 (o':=X2 F' sp T S') h1 h2⟩
theorem BU.app{S:UG}{n:Bn}(h:n∉S):BU S n S.length (S++[n]):=.inr ⟨h,rfl,rfl⟩
theorem Bl(S:UG)(n:Bn):S.map E5++[E5 n]=(S++[n]).map E5:=by simp
end Go.Proofs.YtiknomepbklibaaGreatDoor
end
section
namespace Go.Proofs.YtiknomepbklibaaGreatDoor
open Go Go.RowKit
set_option maxHeartbeats 8000000
variable {F:Fp} {S:UG} {Tn c i sp:Nat} {st:St}

structure Zs(st:St)(F:Fp)(sp T:Nat)(S:UG):Prop where
 at_:Ap st.h.get F sp T S
 hi: ∀c,F c→c<st.n
theorem Zs.q{st st':St}{F:Fp}{sp T:Nat}{S:UG}(hS:Zs st F sp T S)(q:Qt st st'):Zs st' F sp T S:=⟨hS.at_.frame fun c hc=>q.J6 c (hS.hi c hc),fun c hc=>Nat.lt_of_lt_of_le (hS.hi c hc) q.le⟩
theorem Qk.IK{st0:St}{X0:Fp}{M:QU}{Os:List Ob}{T:Nat}(B:Qk st0 X0 st M Os){k:Nat}(hk:Os[k]? =some (X2 F sp T S)):Zs st F sp T S:=⟨B.at_ hk,B.Yu hk⟩
def DO:Bn→Int
 |.leaf _=>0
 |.fork t _ _=>((t:Nat):Int)
def eU:Bn→Nat
 |.leaf _=>0
 |.fork _ l _=>l
def eV:Bn→Nat
 |.leaf _=>0
 |.fork _ _ h=>h
def HS:Bn→Bool
 |.leaf _=>false
 |.fork _ _ _=>true
theorem jy{T:Nat}{n:Bn}(h:S[i]? =some n):lvl T S i=if HS n then(DO n).toNat else T:=by
 unfold lvl;rw[h];cases n<;>simp[HS,DO]
theorem R8(n:Bn):Kd Tryz.prog (E5 n) 195 true=some (.tup [.agg [.int .i64 (DO n),.int .i64 (eU n:Nat),.int .i64 (eV n:Nat)],.bool (HS n)]):=by
 cases n with
 |leaf v=>exact yb _
 |fork t l h=>exact yc _
def aw(F:Fp)(sp Tn:Nat)(S:UG)(c j:Nat):Prop:= ∀(st:St) (n:Bn),Qj st→Zs st F sp Tn S→S[j]? =some n→
 ∃t u fid v st',E5 n=.ifc t u∧EK Tryz.prog t "sibyl/bdd.at" =some fid∧Ev Tryz.prog Q4 fid [u,.ptr sp 0 0,.int .i64 (c:Nat)] st v st'∧v=.int .i64 (Y6 S j c)∧Qt st st'
def Is{α:Type}(p:α→Bool):List α→Nat→Int
 |[],_=> -1
 |k::l,i=>if p k then(i:Int)else Is p l (i+1)
theorem AE{α:Type}{p:α→Bool}{l:List α}{k:α}(h:l[i]? =some k):Is p (l.drop i) i=if p k then(i:Int)else Is p (l.drop (i+1)) (i+1):=by
 obtain⟨h1,h2⟩:=List.getElem?_eq_some_iff.1 h;rw[List.drop_eq_getElem_cons h1,Is,h2]
theorem Dr{α:Type}{p:α→Bool}{l:List α}(h:l.length≤i):Is p (l.drop i) i= -1:=by rw[List.drop_eq_nil_of_le h];rfl
theorem Ds{α:Type}(p:α→Bool): ∀(l:List α) (i:Nat),decide (0≤Is p l i)=l.any p:=by
 intro l
 induction l with
 |nil=>intro i;rfl
 |cons k l ih=>
  intro i;rw[Is,List.any_cons]
  cases hp:p k with
  |true=>rw[if_pos rfl];simp
  |false=>rw[if_neg QE,ih];rfl

theorem El(hf:Qj st)(hS:Zs st F sp Tn S): ∃v st',Ev Tryz.prog Q4 64 [.ptr sp 0 0] st v st'∧v=iN Tn∧Qt st st':=by
 obtain⟨ks,cm,hrow,hrd,hlen,hbn⟩:=hS.at_.rd;refine JF Tryz.func64 Tryz.ntmps64 fun T K=>?_;have M:=Mem.start hf;refine Qc 2 K M ?_;intro _ K;refine p1 K (Yp ZL rfl rfl) fun _ K=>?_;refine Qc 4 K M ?_;intro _ K;refine p1 K (Qd rfl (Qz (M.JG QA hrow.Jd) (Qf Qr rfl))) fun _ K=>?_;refine Qc 1 K M ?_;exact⟨rfl,M.qt⟩

theorem SY(hf:Qj st)(hS:Zs st F sp Tn S): ∃v st',Ev Tryz.prog Q4 97 [.ptr sp 0 0] st v st'∧v=iZ (S.length:Nat)∧Qt st st':=by
 obtain⟨ks,cm,hrow,hrd,hlen,hbn⟩:=hS.at_.rd;refine JF Tryz.func97 Tryz.ntmps97 fun T K=>?_;have M:=Mem.start hf;refine Qc 2 K M ?_;intro _ K;refine p1 K (Yp ZL rfl rfl) fun _ K=>?_;refine Qc 4 K M ?_;intro _ K;refine p1 K (Qd rfl (Qz (M.JG QA hrow.Jd) (Qf UD rfl))) fun _ K=>p1 K (Q8 Xr rfl rfl hlen) fun _ K=>?_;refine Qc 1 K M ?_;exact⟨rfl,M.qt⟩

theorem NI(hf:Qj st)(hS:Zs st F sp Tn S)(hi:i<S.length): ∃v st',Ev Tryz.prog Q4 73 [.ptr sp 0 0,iN i] st v st'∧v=.bool true∧Qt st st':=by
 obtain⟨ks,cm,hrow,hrd,hlen,hbn⟩:=hS.at_.rd;refine JF Tryz.func73 Tryz.ntmps73 fun T K=>?_;have M:=Mem.start hf;refine Qc 3 K M ?_;intro _ K;refine Um K (Qg rfl) rfl (fun _ e7 K=>?_) fun _ e7 K=>?_
 ·exfalso;omega
 refine Qc 2 K M ?_;intro _ K;obtain⟨v10,st10,ev10,rfl,q10⟩:=SY M.fresh (hS.q M.qt);refine pg K rfl rfl (Qh rfl ev10) fun _ K=>?_;replace M:=M.quiet q10;refine Qc 3 K M ?_;exact⟨congrArg AV.bool (decide_eq_true Qe),M.qt⟩

theorem Gx(hf:Qj st)(hS:Zs st F sp Tn S)(hi:i<S.length)(t:Nat)(ht:t<Tn): ∃v st',Ev Tryz.prog Q4 151 [.ptr sp 0 0,iN i,iN t] st v st'∧v=.bool (decide (t<lvl Tn S i))∧Qt st st':=by
 obtain⟨ks,cm,hrow,hrd,hlen,hbn⟩:=hS.at_.rd;refine JF Tryz.func151 Tryz.ntmps151 fun T K=>?_;have M:=Mem.start hf;refine Qc 3 K M ?_;intro _ K;refine oQ K M (NI M.fresh (hS.q M.qt) hi) rfl rfl fun _ _ K M=>?_;refine Qc 5 K M ?_;intro _ K;refine p1 K (Qd rfl (Qz (M.JG QA hrow.Jd) (Qf UD rfl))) fun _ K=>?_;refine Qc 1 K M ?_;intro _ K;obtain⟨n19,hn19⟩:=U8 S i Qe;obtain⟨x19,m19,f19,q19,_,la19,lo19,lp19⟩:=(Ji.mem M hrd QA).load (i:=i) (cs:=_) (by rw[List.getElem?_map,hn19];rfl);refine p1 K (Qa (j:=i) YC (congrArg some q19) rfl (by rw[List.length_map];omega)) fun _ K=>p1 K (Qd rfl (lo19 _ 0 _ YR rfl)) fun _ K=>p1 K (LF rfl (R8 n19)) fun _ K=>?_;refine au 8 K M ?_;intro c7 _ _ K _ M;refine oB K (Qg rfl) rfl fun b26 _ e26 K=>?_;cases b26
 ·replace e26:((HS n19))=true:=by simpa using e26
  refine Qc 6 K M ?_;refine⟨?_,M.qt⟩;rw[jy hn19]
  cases n19 with
  |leaf v=>first|(cases e26;done)|(rw[if_neg (show¬HS (Bn.leaf v)=true by simp[HS]),decide_eq_true ht];rfl)
  |fork t' l h=>first|(cases e26;done)|(refine congrArg AV.bool (decide_eq_decide.2 ?_);rw[if_pos (show HS (Bn.fork t' l h)=true from rfl)];simp only[DO];omega)
 replace e26:((HS n19))=false:=by simpa using e26
 refine Qc 6 K M ?_;refine⟨?_,M.qt⟩;rw[jy hn19]
 cases n19 with
 |leaf v=>first|(cases e26;done)|(rw[if_neg (show¬HS (Bn.leaf v)=true by simp[HS]),decide_eq_true ht];rfl)
 |fork t' l h=>first|(cases e26;done)|(refine congrArg AV.bool (decide_eq_decide.2 ?_);rw[if_pos (show HS (Bn.fork t' l h)=true from rfl)];simp only[DO];omega)

theorem MI(hf:Qj st)(hS:Zs st F sp Tn S)(hi:i<S.length): ∃v st',Ev Tryz.prog Q4 191 [.ptr sp 0 0,iN i] st v st'∧(∃n,S[i]? =some n∧v=iZ (if HS n then DO n else-1))∧Qt st st':=by
 obtain⟨ks,cm,hrow,hrd,hlen,hbn⟩:=hS.at_.rd;refine JF Tryz.func191 Tryz.ntmps191 fun T K=>?_;have M:=Mem.start hf;refine Qc 3 K M ?_;intro _ K;refine oQ K M (NI M.fresh (hS.q M.qt) hi) rfl rfl fun _ _ K M=>?_;refine Qc 5 K M ?_;intro _ K;refine p1 K (Qd rfl (Qz (M.JG QA hrow.Jd) (Qf UD rfl))) fun _ K=>?_;refine Qc 1 K M ?_;intro _ K;obtain⟨n17,hn17⟩:=U8 S i Qe;obtain⟨x17,m17,f17,q17,_,la17,lo17,lp17⟩:=(Ji.mem M hrd QA).load (i:=i) (cs:=_) (by rw[List.getElem?_map,hn17];rfl);refine p1 K (Qa (j:=i) YC (congrArg some q17) rfl (by rw[List.length_map];omega)) fun _ K=>p1 K (Qd rfl (lo17 _ 0 _ YR rfl)) fun _ K=>p1 K (LF rfl (R8 n17)) fun _ K=>?_;refine au 7 K M ?_;intro c5 _ _ K _ M;refine Qq (K.QI rfl) (fun h22=>?_) (fun h22=>?_)
 ·have hb22:=h22;refine Qc 3 K M ?_;exact⟨⟨n17,hn17,by rw[if_pos h22]⟩,M.qt⟩
 have hb22:=h22;refine Qc 1 K M ?_;exact⟨⟨n17,hn17,by rw[if_neg (by rw[h22];decide)]⟩,M.qt⟩

theorem uU(hf:Qj st)(hS:Zs st F sp Tn S)(hi:i<S.length){t l h:Nat}(hn:S[i]? =some (.fork t l h)): ∃v st',Ev Tryz.prog Q4 192 [.ptr sp 0 0,iN i] st v st'∧v=.tup [iN l,iN h]∧Qt st st':=by
 obtain⟨ks,cm,hrow,hrd,hlen,hbn⟩:=hS.at_.rd;refine JF Tryz.func192 Tryz.ntmps192 fun T K=>?_;have M:=Mem.start hf;refine Qc 4 K M ?_;intro _ K;refine oQ K M (NI M.fresh (hS.q M.qt) hi) rfl rfl fun _ _ K M=>?_;refine Qc 5 K M ?_;intro _ K;refine p1 K (Qd rfl (Qz (M.JG QA hrow.Jd) (Qf UD rfl))) fun _ K=>?_;refine Qc 1 K M ?_;intro _ K;obtain⟨n18,hn18⟩:=U8 S i Qe;obtain⟨x18,m18,f18,q18,_,la18,lo18,lp18⟩:=(Ji.mem M hrd QA).load (i:=i) (cs:=_) (by rw[List.getElem?_map,hn18];rfl);refine p1 K (Qa (j:=i) YC (congrArg some q18) rfl (by rw[List.length_map];omega)) fun _ K=>p1 K (Qd rfl (lo18 _ 0 _ YR rfl)) fun _ K=>p1 K (LF rfl (R8 n18)) fun _ K=>?_;refine au 7 K M ?_;intro c6 _ _ K _ M;refine Qq (K.QI rfl) (fun h23=>?_) (fun h23=>?_)
 ·have hb23:=h23;refine QC ?_;refine QD (l:=[(0,0),(1,0),(2,0),(3,0),(4,0),(5,0)]) (by kernel_rfl) ?_;refine Jf 6 K M ?_;intro _ K;refine QG ?_;show W _ _ _ _ _ _ _;refine Qc 0 K M ?_
  rw[hn]at hn18;injection hn18 with hn18;subst hn18
  exact⟨rfl,M.qt⟩
 have hb23:=h23
 (rw[hn]at hn18;injection hn18 with hn18;subst hn18;cases h23)

theorem Ma(hf:Qj st)(v0:Int)(u w:AV): ∃v st',Ev Tryz.prog Q4 211 [.agg [iZ v0],u,w] st v st'∧v=iZ v0∧Qt st st':=by
 refine JF Tryz.func211 Tryz.ntmps211 fun T K=>?_;have M:=Mem.start hf;refine au 5 K M ?_;intro c3 _ _ K _ M;refine Qc 0 K M ?_;exact⟨rfl,M.qt⟩

theorem Mt(hf:Qj st)(hS:Zs st F sp Tn S)(h6:Tn≤6)(wf:Xg Tn S){t l h:Nat}(hn:S[i]? =some (.fork t l h))(hc:c≤4611686018427387904)(ih: ∀j,j<i→aw F sp Tn S c j): ∃v st',Ev Tryz.prog Q4 212 [.agg [iN t,iN l,iN h],.ptr sp 0 0,iN c] st v st'∧v=iZ (Y6 S i c)∧Qt st st':=by
 obtain⟨ks,cm,hrow,hrd,hlen,hbn⟩:=hS.at_.rd;obtain⟨w1,w2,w3,w4,w5,w6⟩:=wf.fork _ _ _ _ hn;have hil:=(List.getElem?_eq_some_iff.1 hn).1;refine JF Tryz.func212 Tryz.ntmps212 fun T K=>?_;have M:=Mem.start hf;refine au 5 K M ?_;intro c3 _ _ K _ M;refine p1 K (Xs (a:=c) (n:=t) rfl rfl Qe) fun _ K=>p1 K (Xu (a:=(c/2^t)) rfl rfl (Nat.le_trans (Nat.div_le_self _ _) Qe)) fun _ K=>?_;refine Qc 1 K M ?_;intro _ K;refine JP K rfl (fun h12=>?_) fun h12=>?_
 ·refine QC ?_;refine QD (l:=[(0,0),(1,0),(2,0),(3,0),(4,0),(5,0),(6,0),(7,0),(8,0),(9,0),(10,0),(11,0)]) (by kernel_rfl) ?_;refine Jf 3 K M ?_;intro _ K;refine q1 rfl K (Qd rfl (Qz (M.JG QA hrow.Jd) (Qf UD rfl))) fun _ K=>?_;refine Jf 2 K M ?_;intro _ K;obtain⟨n19,hn19⟩:=U8 S h Qe;obtain⟨x19,m19,f19,q19,_,la19,lo19,lp19⟩:=(Ji.mem M hrd QA).load (i:=h) (cs:=_) (by rw[List.getElem?_map,hn19];rfl);refine q1 rfl K (Qa (j:=h) YC (congrArg some q19) rfl (by rw[List.length_map];omega)) fun _ K=>q1 rfl K (Qd rfl (lo19 _ 0 _ YR rfl)) fun _ K=>?_;refine Jf 2 K M ?_;intro _ K;obtain⟨tt23,uu23,ff23,v23,st23,ei23,em23,ev23,rfl,q23⟩:=ih h Qe _ _ M.fresh (hS.q M.qt) hn19;refine qA rfl K (Ii (show QX _ _ _=_ from congrArg some ei23) em23 rfl ev23) fun _ K=>?_;replace M:=M.quiet q23;refine q1 rfl K (U5 rfl) fun _ K=>QG ?_;show W _ _ _ _ _ _ _;refine Qc 0 K M ?_;exact⟨by rw[VN wf hn,if_pos ((SR c t).1 h12)],M.qt⟩
 refine Qc 0 K M ?_;intro _ K;refine QD (l:=[(0,0),(1,0),(2,0),(3,0),(4,0),(5,0),(6,0),(7,0),(8,0),(9,0),(10,0),(11,0)]) (by kernel_rfl) ?_;refine Jf 3 K M ?_;intro _ K;refine q1 rfl K (Qd rfl (Qz (M.JG QA hrow.Jd) (Qf UD rfl))) fun _ K=>?_;refine Jf 2 K M ?_;intro _ K;obtain⟨n30,hn30⟩:=U8 S l Qe;obtain⟨x30,m30,f30,q30,_,la30,lo30,lp30⟩:=(Ji.mem M hrd QA).load (i:=l) (cs:=_) (by rw[List.getElem?_map,hn30];rfl);refine q1 rfl K (Qa (j:=l) YC (congrArg some q30) rfl (by rw[List.length_map];omega)) fun _ K=>q1 rfl K (Qd rfl (lo30 _ 0 _ YR rfl)) fun _ K=>?_;refine Jf 2 K M ?_;intro _ K;obtain⟨tt34,uu34,ff34,v34,st34,ei34,em34,ev34,rfl,q34⟩:=ih l Qe _ _ M.fresh (hS.q M.qt) hn30;refine qA rfl K (Ii (show QX _ _ _=_ from congrArg some ei34) em34 rfl ev34) fun _ K=>?_;replace M:=M.quiet q34;refine q1 rfl K (U5 rfl) fun _ K=>QG ?_;show W _ _ _ _ _ _ _;refine Qc 0 K M ?_;exact⟨by rw[VN wf hn,if_neg fun hb=>h12 ((SR c t).2 hb)],M.qt⟩

theorem wi(h6:Tn≤6)(wf:Xg Tn S)(hc:c≤4611686018427387904): ∀j,j<S.length→aw F sp Tn S c j:=by
 intro j
 induction j using Nat.strongRecOn with
 |_ j ih=>
  intro hj st n hf hS hn
  cases n with
  |leaf v=>
   obtain⟨v',st',ev,rfl,q⟩:=Ma hf v (.ptr sp 0 0) (.int .i64 (c:Nat));exact⟨_,_,_,_,st',rfl,z8,ev,by rw[VM hn],q⟩
  |fork t l h=>
   obtain⟨v',st',ev,rfl,q⟩:=Mt hf hS h6 wf hn hc fun k hk=>ih k hk Qe;exact⟨_,_,_,_,st',rfl,zA,ev,rfl,q⟩

theorem uX(hf:Qj st)(hS:Zs st F sp Tn S)(h6:Tn≤6)(wf:Xg Tn S)(hi:i<S.length)(hc:c<2^Tn): ∃v st',Ev Tryz.prog Q4 74 [.ptr sp 0 0,iN i,iN c] st v st'∧v=iZ (Y6 S i c)∧Qt st st':=by
 obtain⟨ks,cm,hrow,hrd,hlen,hbn⟩:=hS.at_.rd;have hp:=CI (show Tn≤62 by omega);refine JF Tryz.func74 Tryz.ntmps74 fun T K=>?_;have M:=Mem.start hf;refine Qc 3 K M ?_;intro _ K;refine oQ K M (NI M.fresh (hS.q M.qt) hi) rfl rfl fun _ _ K M=>?_;refine Qc 5 K M ?_;intro _ K;refine Um K (Qg rfl) rfl (fun _ e15 K=>?_) fun _ e15 K=>?_
 ·refine Qc 2 K M ?_;intro _ K;obtain⟨v18,st18,ev18,rfl,q18⟩:=El M.fresh (hS.q M.qt);refine pg K rfl rfl (Qh rfl ev18) fun _ K=>?_;replace M:=M.quiet q18;refine pg K rfl rfl (Y4 (n:=Tn) rfl rfl Qe) fun _ K=>?_;refine Qc 2 K M ?_;intro _ K;refine JP K rfl (fun h21=>?_) fun h21=>?_
  ·exfalso;omega
  refine Qc 3 K M ?_;intro _ K;refine p1 K (Qd rfl (Qz (M.JG QA hrow.Jd) (Qf UD rfl))) fun _ K=>?_;refine Qc 1 K M ?_;intro _ K;obtain⟨n27,hn27⟩:=U8 S i Qe;obtain⟨x27,m27,f27,q27,_,la27,lo27,lp27⟩:=(Ji.mem M hrd QA).load (i:=i) (cs:=_) (by rw[List.getElem?_map,hn27];rfl);refine p1 K (Qa (j:=i) YC (congrArg some q27) rfl (by rw[List.length_map];omega)) fun _ K=>p1 K (Qd rfl (lo27 _ 0 _ YR rfl)) fun _ K=>?_;refine Qc 2 K M ?_;intro _ K;obtain⟨tt31,uu31,ff31,v31,st31,ei31,em31,ev31,rfl,q31⟩:=wi (c:=c) h6 wf Qe _ hi _ _ M.fresh (hS.q M.qt) hn27;refine p1 K (Ii (show QX _ _ _=_ from congrArg some ei31) em31 rfl ev31) fun _ K=>?_;replace M:=M.quiet q31;refine Qc 1 K M ?_;exact⟨rfl,M.qt⟩
 exfalso;omega
end Go.Proofs.YtiknomepbklibaaGreatDoor
end
