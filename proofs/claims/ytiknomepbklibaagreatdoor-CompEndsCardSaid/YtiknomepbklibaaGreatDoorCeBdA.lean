/-
  What hangs on letters, in memory.
-/
import Derived.Test.YtiknomepbklibaaGreatDoorCeBdP
import Derived.Test.YtiknomepbklibaaGreatDoorCeR14
set_option maxRecDepth 100000
set_option linter.unnecessarySimpa false
set_option linter.unusedSimpArgs false
set_option linter.unusedVariables false
section
namespace Go.Proofs.YtiknomepbklibaaGreatDoor
open Go Go.RowKit

def E7:Bn→AV
 |.leaf v=>.ifc 193 (.agg [.int .i64 v])
 |.fork t l h=>.ifc 195 (.agg [.int .i64 (t:Nat),.int .i64 (l:Nat),.int .i64 (h:Nat)])
theorem Pg(n:Bn):Qu (E7 n)=true:=by cases n<;>rfl
theorem BD(u:AV):Ng Tryz.prog 193 u=some (.ifc 193 u):=by kernel_rfl
theorem BE(u:AV):Ng Tryz.prog 195 u=some (.ifc 195 u):=by kernel_rfl
theorem yB(u:AV):Ku Tryz.prog (.ifc 195 u) 195 true=some (.tup [u,.bool true]):=by kernel_rfl
theorem yA(u:AV):Ku Tryz.prog (.ifc 193 u) 195 true=some (.tup [.agg [.int .i64 0,.int .i64 0,.int .i64 0],.bool false]):=by kernel_rfl
theorem xg:ER Tryz.prog 193 "sibyl/bdd.at" =some 211:=by kernel_rfl
theorem xh:ER Tryz.prog 195 "sibyl/bdd.at" =some 212:=by kernel_rfl
theorem NA(a b:Int):Yw Tryz.prog 193 [.int .i64 a] [.int .i64 b]=Qo (FH a b) (some true) (some false):=by kernel_rfl
theorem NB(a b c x y z:Int):Yw Tryz.prog 195 [.int .i64 a,.int .i64 b,.int .i64 c] [.int .i64 x,.int .i64 y,.int .i64 z]=Qo (FH a x) (Qo (FH b y) (Qo (FH c z) (some true) (some false)) (some false)) (some false):=by kernel_rfl
theorem Ry(l:List AV):Km Tryz.prog (.ifc 193 (.agg l))=eD (Yw Tryz.prog 193 l l):=by kernel_rfl
theorem Rz(l:List AV):Km Tryz.prog (.ifc 195 (.agg l))=eD (Yw Tryz.prog 195 l l):=by kernel_rfl
theorem uw(a b:List AV):Fx Tryz.prog (.ifc 193 (.agg a)) (.ifc 193 (.agg b))=WE (Yw Tryz.prog 193 a b) a b:=by kernel_rfl
theorem uz(a b:List AV):Fx Tryz.prog (.ifc 195 (.agg a)) (.ifc 195 (.agg b))=WE (Yw Tryz.prog 195 a b) a b:=by kernel_rfl
theorem ux(a b:List AV):Fx Tryz.prog (.ifc 193 (.agg a)) (.ifc 195 (.agg b))=some false:=by kernel_rfl
theorem uy(a b:List AV):Fx Tryz.prog (.ifc 195 (.agg a)) (.ifc 193 (.agg b))=some false:=by kernel_rfl
theorem qv: ∃ms,Tryz.prog.underlying 132=some (.interface ms):=⟨_,Tryz.underlying132⟩
theorem zj:Tryz.prog.underlying 123=some (.map 132 3):=by kernel_rfl
theorem uf:VE Tryz.prog 123 E7 (.int .i64 0):=by
 obtain⟨ms,hu⟩:=qv
 have eb: ∀(a:Int),FH a a=true:=fun a=>by rw[Ys];exact decide_eq_true rfl
 refine⟨132,3,.interface ms,zj,hu,by kernel_rfl,fun a=>?_,fun a i=>rfl,fun a b v n es i=>?_⟩
 ·cases a with
  |leaf v=>
   show Km Tryz.prog (.ifc 193 (.agg [.int .i64 v]))=true;rw[Ry,NA,eb];rfl
  |fork t l h=>
   show Km Tryz.prog (.ifc 195 (.agg [.int .i64 (t:Nat),.int .i64 (l:Nat),.int .i64 (h:Nat)]))=true;rw[Rz,NB,eb,eb,eb];rfl
 ·have e:Yv Tryz.prog 132 (.interface ms) (E7 a) ((E7 b,v,n)::es) i=ob (Fx Tryz.prog (E7 a) (E7 b)) fun q=>Qo q (some (some (i,v))) (Yv Tryz.prog 132 (.interface ms) (E7 a) es (i+1)):=by
   exact Eh _ _ _ _ _ _ _
  have e2:(a=b→Fx Tryz.prog (E7 a) (E7 b)=some true)∧(a≠b→Fx Tryz.prog (E7 a) (E7 b)=some false):=by
   cases a with
   |leaf x=>
    cases b with
    |leaf y=>
     rw[E7,E7,uw,NA,Ys]
     by_cases h:x=y
     ·subst h;exact⟨fun _=>by simp[Q5,WE,OR,NW,WC,eb,QP],fun h=>absurd rfl h⟩
     ·exact⟨fun e=>by injection e with e;exact absurd e h,fun _=>by simp[h,Qx,WE]⟩
    |fork t l h'=>rw[E7,E7,ux];exact⟨fun e=>(by cases e),fun _=>rfl⟩
   |fork t l h'=>
    cases b with
    |leaf y=>rw[E7,E7,uy];exact⟨fun e=>(by cases e),fun _=>rfl⟩
    |fork t2 l2 h2=>
     rw[E7,E7,uz,NB,Ys,Ys,Ys]
     by_cases h1:t=t2
     ·by_cases h3:l=l2
      ·by_cases h4:h'=h2
       ·subst h1 h3 h4;exact⟨fun _=>by simp[Q5,WE,OR,NW,WC,eb,QP],fun h=>absurd rfl h⟩
       ·exact⟨fun e=>by injection e with _ _ e;exact absurd e h4,fun _=>by simp[h1,h3,show¬((h':Int)=(h2:Int)) by omega,Q5,Qx,WE]⟩
      ·exact⟨fun e=>by injection e with _ e;exact absurd e h3,fun _=>by simp[h1,show¬((l:Int)=(l2:Int)) by omega,Q5,Qx,WE]⟩
     ·exact⟨fun e=>by injection e with e;exact absurd e h1,fun _=>by simp[show¬((t:Int)=(t2:Int)) by omega,Qx,WE]⟩
  rw[e];refine⟨fun h=>?_,fun h=>?_⟩
  ·rw[e2.1 h];rfl
  ·rw[e2.2 h];rfl
def V3:Nat→U6→List (Bn×AV)
 |_,[]=>[]
 |j,n::S=>(n,.int .i64 (j:Nat))::V3 (j+1) S
theorem GC: ∀(j:Nat) (S:U6) (n:Bn),V3 j (S++[n])=V3 j S++[(n,.int .i64 (j+S.length:Nat))]
 |j,[],n=>by simp[V3]
 |j,x::S,n=>by
  rw[List.cons_append,V3,V3,GC (j+1) S n,List.cons_append,List.length_cons,show j+1+S.length=j+(S.length+1) by omega]
theorem DM: ∀{j:Nat} {S:U6} {n:Bn} {v:AV},(n,v)∈V3 j S→ ∃i:Nat,S[i]? =some n∧v=.int .i64 (j+i:Nat)
 |j,[],n,v,h=>by cases h
 |j,x::S,n,v,h=>by
  rcases List.mem_cons.1 h with e|h
  ·injection e with e1 e2
   subst e1 e2;exact⟨0,rfl,rfl⟩
  ·obtain⟨i,h1,h2⟩:=DM h;exact⟨i+1,h1,by rw[h2];congr 2;omega⟩
theorem Dq: ∀{j:Nat} {S:U6} {n:Bn},n∈S→ ∃v,(n,v)∈V3 j S
 |j,[],n,h=>by cases h
 |j,x::S,n,h=>by
  rcases List.mem_cons.1 h with rfl|h
  ·exact⟨_,List.mem_cons_self ..⟩
  ·obtain⟨v,hv⟩:=Dq (j:=j+1) h;exact⟨v,List.mem_cons_of_mem _ hv⟩
theorem xk{S:U6}{n:Bn}(h:Yk (V3 0 S) n=none):n∉S:=fun hm=>by
 obtain⟨v,hv⟩:=Dq (j:=0) hm;exact No h v hv
theorem xj{S:U6}{n:Bn}{v:AV}(h:Yk (V3 0 S) n=some v): ∃i:Nat,S[i]? =some n∧v=.int .i64 (i:Nat):=by
 obtain⟨i,h1,h2⟩:=DM (Lj h);exact⟨i,h1,by rw[h2,Nat.zero_add]⟩
def Xf(R:QT):Ob:=⟨fun c=> ∃m l,(c,m,l)∈R,fun h=> ∀c m l,(c,m,l)∈R→Q4 h c m l,fun h h' e H c m l hm=>(H c m l hm).frame (e c ⟨m,l,hm⟩)⟩
def A5(h:Hp)(F:Fp)(sp T:Nat)(S:U6):Prop:=
 ∃ks cm A,Q4 h sp 0 [.int .i64 (T:Nat),ks,.mp cm]∧F sp∧F cm∧sp≠cm∧(VY cm E7 (V3 0 S)).H h∧YP A ks (S.map E7)∧ ∀c m l,(c,m,l)∈A→Q4 h c m l∧F c∧c≠sp∧c≠cm
theorem A5.frame{h h':Hp}{F:Fp}{sp T:Nat}{S:U6}(e: ∀c,F c→h' c=h c)(H:A5 h F sp T S):A5 h' F sp T S:=by
 obtain⟨ks,cm,A,h1,h2,h3,h4,h5,h6,h7⟩:=H;exact⟨ks,cm,A,h1.frame (e sp h2),h2,h3,h4,(VY cm E7 (V3 0 S)).fr _ _ (fun c hc=>by have hc:c=cm:=hc;rw[hc];exact e cm h3) h5,h6,fun c m l hm=>⟨(h7 c m l hm).1.frame (e c (h7 c m l hm).2.1),(h7 c m l hm).2⟩⟩
def X3(F:Fp)(sp T:Nat)(S:U6):Ob:=⟨F,fun h=>A5 h F sp T S,fun _ _ e H=>H.frame e⟩
theorem A5.rd{h:Hp}{F:Fp}{sp T:Nat}{S:U6}(H:A5 h F sp T S): ∃ks cm,Q4 h sp 0 [.int .i64 (T:Nat),ks,.mp cm]∧Jj h [] 1 (S.map fun n=>[E7 n]) ks∧Y9 ks=some S.length∧S.length≤1000000000:=by
 obtain⟨ks,cm,A,h1,h2,h3,h4,h5,h6,h7⟩:=H;have hr:=h6.rd fun c m l hm=>(h7 c m l hm).1;have hl:=h6.len;rw[List.length_map]at hl;rw[List.map_map]at hr;refine⟨ks,cm,h1,hr,hl,?_⟩;generalize hv:S.map E7=vs at h6;have hl2:=congrArg List.length hv;rw[List.length_map]at hl2
 cases h6 with
 |none=>rw[hl2];simp
 |own hb=>rw[hl2];exact hb
section
variable {st0 st:St} {X0:Fp} {M:QT} {Os:List Ob} {F:Fp} {sp T cm:Nat} {S:U6} {ks:AV} {A:QT}
theorem Qk.eW(B:Qk st0 X0 st M (X3 F sp T S::Os)): ∃ks cm A,Qk st0 X0 st (((sp,0,[.int .i64 (T:Nat),ks,.mp cm])::A)++M) (VY cm E7 (V3 0 S)::Os)∧YP A ks (S.map E7):=by
 obtain⟨ks,cm,A,h1,h2,h3,h4,h5,h6,h7⟩:=B.at_ (k:=0) rfl;refine⟨ks,cm,A,B.vD (fun c m l hm=>?_) ?_ h5 (fun c hc=>by have hc:c=cm:=hc;rw[hc];exact h3) fun c m l hm hc=>?_,h6⟩
 ·rcases List.mem_cons.1 hm with e|hm
  ·injection e with e1 e;injection e with e2 e3;subst e1 e2 e3
   exact⟨h1,h2⟩
  ·exact⟨(h7 c m l hm).1,(h7 c m l hm).2.1⟩
 ·rw[List.map_cons];refine List.nodup_cons.2 ⟨fun hm=>?_,h6.nodup⟩;obtain⟨⟨c,m,l⟩,e1,e2⟩:=List.mem_map.1 hm;exact(h7 c m l e1).2.2.1 e2
 ·have hc:c=cm:=hc;subst hc;rcases List.mem_cons.1 hm with e|hm
  ·injection e with e1 e;exact h4 e1.symm
  ·exact(h7 _ m l hm).2.2.2 rfl
theorem Qk.RG(B:Qk st0 X0 st (((sp,0,[.int .i64 (T:Nat),ks,.mp cm])::A)++M) (VY cm E7 (V3 0 S)::Os))(hA:YP A ks (S.map E7)): ∃F,Qk st0 X0 st M (X3 F sp T S::Os):=by
 have hnd:=B.nodup;rw[List.cons_append,List.map_cons]at hnd;have hn1:=(List.nodup_cons.1 hnd).1;have hdj: ∀c m l,(c,m,l)∈((sp,0,[.int .i64 (T:Nat),ks,.mp cm])::A)++M→c≠cm:=fun c m l hm e=>B.djM (VY cm E7 (V3 0 S)) Q7 c m l hm e;have B1:=B.freeze (o:=Xf ((sp,0,[.int .i64 (T:Nat),ks,.mp cm])::A)) (fun c m l hm=>B.row c m l (List.mem_append_left _ hm)) (fun c hc=>hc);refine⟨fun c=>(Xf ((sp,0,[.int .i64 (T:Nat),ks,.mp cm])::A)).F c∨c=cm,B1.join (fun h1 h2=>?_) fun c hc=>hc⟩;refine⟨ks,cm,A,h1 _ _ _ Q7,.inl ⟨_,_,List.mem_cons_self ..⟩,.inr rfl,fun e=>?_,h2,hA,fun c m l hm=>⟨h1 _ _ _ (List.mem_cons_of_mem _ hm),.inl ⟨m,l,List.mem_cons_of_mem _ hm⟩,fun e=>?_,fun e=>?_⟩⟩
 ·exact hdj sp _ _ (List.mem_cons_self ..) e
 ·subst e;exact hn1 (List.mem_map.2 ⟨(_,m,l),List.mem_append_left _ hm,rfl⟩)
 ·exact hdj c m l (by simp[hm]) e
end
def XN(st st':St)(F:Fp)(sp T:Nat)(S':U6):Prop:= ∃F',A5 st'.h.get F' sp T S'∧WN st st' F F'∧UO F st st'
theorem Qk.LS{st0 st:St}{F F':Fp}{M:QT}{Os:List Ob}{sp T:Nat}{S':U6}(B:Qk st0 F st M (X3 F' sp T S'::Os)):XN st0 st F sp T S':=
 ⟨F',B.at_ (k:=0) rfl,fun c hc=>⟨(B.Li (k:=0) rfl c hc).symm,B.Y1 (k:=0) rfl c hc⟩,B.JM⟩
theorem Qk.VO{st0 st st':St}{X0 F:Fp}{M:QT}{Os:List Ob}{sp T:Nat}{S S':U6}(B:Qk st0 X0 st M (X3 F sp T S::Os))(h:XN st st' F sp T S'): ∃F',Qk st0 X0 st' M (X3 F' sp T S'::Os):=by
 obtain⟨F',h1,h2,h3⟩:=h;exact⟨F',B.call (k:=0) rfl h3 (o':=X3 F' sp T S') h1 h2⟩
theorem Cs.app{S:U6}{n:Bn}(h:n∉S):Cs S n S.length (S++[n]):=.inr ⟨h,rfl,rfl⟩
theorem BG(S:U6)(n:Bn):S.map E7++[E7 n]=(S++[n]).map E7:=by simp
end Go.Proofs.YtiknomepbklibaaGreatDoor
end
section
namespace Go.Proofs.YtiknomepbklibaaGreatDoor
open Go Go.RowKit
set_option maxHeartbeats 8000000
variable {F:Fp} {S:U6} {Tn c i sp:Nat} {st:St}

structure Zm(st:St)(F:Fp)(sp T:Nat)(S:U6):Prop where
 at_:A5 st.h.get F sp T S
 hi: ∀c,F c→c<st.n
theorem Zm.q{st st':St}{F:Fp}{sp T:Nat}{S:U6}(hS:Zm st F sp T S)(q:Qt st st'):Zm st' F sp T S:=⟨hS.at_.frame fun c hc=>q.J5 c (hS.hi c hc),fun c hc=>Nat.lt_of_lt_of_le (hS.hi c hc) q.le⟩
theorem Qk.Kc{st0:St}{X0:Fp}{M:QT}{Os:List Ob}{T:Nat}(B:Qk st0 X0 st M Os){k:Nat}(hk:Os[k]? =some (X3 F sp T S)):Zm st F sp T S:=⟨B.at_ hk,B.Y1 hk⟩
def Ph:Bn→Int
 |.leaf _=>0
 |.fork t _ _=>((t:Nat):Int)
def aS:Bn→Nat
 |.leaf _=>0
 |.fork _ l _=>l
def aT:Bn→Nat
 |.leaf _=>0
 |.fork _ _ h=>h
def Ie:Bn→Bool
 |.leaf _=>false
 |.fork _ _ _=>true
theorem jR{T:Nat}{n:Bn}(h:S[i]? =some n):lvl T S i=if Ie n then(Ph n).toNat else T:=by
 unfold lvl;rw[h];cases n<;>simp[Ie,Ph]
theorem RT(n:Bn):Ku Tryz.prog (E7 n) 195 true=some (.tup [.agg [.int .i64 (Ph n),.int .i64 (aS n:Nat),.int .i64 (aT n:Nat)],.bool (Ie n)]):=by
 cases n with
 |leaf v=>exact yA _
 |fork t l h=>exact yB _
def fm(F:Fp)(sp Tn:Nat)(S:U6)(c j:Nat):Prop:= ∀(st:St) (n:Bn),Qj st→Zm st F sp Tn S→S[j]? =some n→
 ∃t u fid v st',E7 n=.ifc t u∧ER Tryz.prog t "sibyl/bdd.at" =some fid∧Ev Tryz.prog Q0 fid [u,.ptr sp 0 0,.int .i64 (c:Nat)] st v st'∧v=.int .i64 (Y2 S j c)∧Qt st st'
def I8{α:Type}(p:α→Bool):List α→Nat→Int
 |[],_=> -1
 |k::l,i=>if p k then(i:Int)else I8 p l (i+1)
theorem AM{α:Type}{p:α→Bool}{l:List α}{k:α}(h:l[i]? =some k):I8 p (l.drop i) i=if p k then(i:Int)else I8 p (l.drop (i+1)) (i+1):=by
 obtain⟨h1,h2⟩:=List.getElem?_eq_some_iff.1 h;rw[List.drop_eq_getElem_cons h1,I8,h2]
theorem DA{α:Type}{p:α→Bool}{l:List α}(h:l.length≤i):I8 p (l.drop i) i= -1:=by rw[List.drop_eq_nil_of_le h];rfl
theorem DB{α:Type}(p:α→Bool): ∀(l:List α) (i:Nat),decide (0≤I8 p l i)=l.any p:=by
 intro l
 induction l with
 |nil=>intro i;rfl
 |cons k l ih=>
  intro i;rw[I8,List.any_cons]
  cases hp:p k with
  |true=>rw[if_pos rfl];simp
  |false=>rw[if_neg QD,ih];rfl

theorem VA(hf:Qj st)(hS:Zm st F sp Tn S): ∃v st',Ev Tryz.prog Q0 64 [.ptr sp 0 0] st v st'∧v=iN Tn∧Qt st st':=by
 obtain⟨ks,cm,hrow,hrd,hlen,hbn⟩:=hS.at_.rd;refine JB Tryz.func64 Tryz.ntmps64 fun T K=>?_;have M:=Mem.start hf;refine Qc 2 K M ?_;intro _ K;refine p1 K (Yc ZM rfl rfl) fun _ K=>?_;refine Qc 4 K M ?_;intro _ K;refine p1 K (Qd rfl (Qz (M.JE Q7 hrow.Jb) (Qf Qr rfl))) fun _ K=>?_;refine Qc 1 K M ?_;exact⟨rfl,M.qt⟩

theorem Tz(hf:Qj st)(hS:Zm st F sp Tn S): ∃v st',Ev Tryz.prog Q0 97 [.ptr sp 0 0] st v st'∧v=iZ (S.length:Nat)∧Qt st st':=by
 obtain⟨ks,cm,hrow,hrd,hlen,hbn⟩:=hS.at_.rd;refine JB Tryz.func97 Tryz.ntmps97 fun T K=>?_;have M:=Mem.start hf;refine Qc 2 K M ?_;intro _ K;refine p1 K (Yc ZM rfl rfl) fun _ K=>?_;refine Qc 4 K M ?_;intro _ K;refine p1 K (Qd rfl (Qz (M.JE Q7 hrow.Jb) (Qf UC rfl))) fun _ K=>p1 K (QA Xr rfl rfl hlen) fun _ K=>?_;refine Qc 1 K M ?_;exact⟨rfl,M.qt⟩

theorem IL(hf:Qj st)(hS:Zm st F sp Tn S)(hi:i<S.length): ∃v st',Ev Tryz.prog Q0 73 [.ptr sp 0 0,iN i] st v st'∧v=.bool true∧Qt st st':=by
 obtain⟨ks,cm,hrow,hrd,hlen,hbn⟩:=hS.at_.rd;refine JB Tryz.func73 Tryz.ntmps73 fun T K=>?_;have M:=Mem.start hf;refine Qc 3 K M ?_;intro _ K;refine Un K (Qg rfl) rfl (fun _ e7 K=>?_) fun _ e7 K=>?_
 ·exfalso;omega
 refine Qc 2 K M ?_;intro _ K;obtain⟨v10,st10,ev10,rfl,q10⟩:=Tz M.fresh (hS.q M.qt);refine pg K rfl rfl (Qh rfl ev10) fun _ K=>?_;replace M:=M.quiet q10;refine Qc 3 K M ?_;exact⟨congrArg AV.bool (decide_eq_true Qe),M.qt⟩

theorem GM(hf:Qj st)(hS:Zm st F sp Tn S)(hi:i<S.length)(t:Nat)(ht:t<Tn): ∃v st',Ev Tryz.prog Q0 151 [.ptr sp 0 0,iN i,iN t] st v st'∧v=.bool (decide (t<lvl Tn S i))∧Qt st st':=by
 obtain⟨ks,cm,hrow,hrd,hlen,hbn⟩:=hS.at_.rd;refine JB Tryz.func151 Tryz.ntmps151 fun T K=>?_;have M:=Mem.start hf;refine Qc 3 K M ?_;intro _ K;refine oQ K M (IL M.fresh (hS.q M.qt) hi) rfl rfl fun _ _ K M=>?_;refine Qc 5 K M ?_;intro _ K;refine p1 K (Qd rfl (Qz (M.JE Q7 hrow.Jb) (Qf UC rfl))) fun _ K=>?_;refine Qc 1 K M ?_;intro _ K;obtain⟨n19,hn19⟩:=U1 S i Qe;obtain⟨x19,m19,f19,q19,_,la19,lo19,lp19⟩:=(Jj.mem M hrd Q7).load (i:=i) (cs:=_) (by rw[List.getElem?_map,hn19];rfl);refine p1 K (Qa (j:=i) YD (congrArg some q19) rfl (by rw[List.length_map];omega)) fun _ K=>p1 K (Qd rfl (lo19 _ 0 _ YS rfl)) fun _ K=>p1 K (LX rfl (RT n19)) fun _ K=>?_;refine au 8 K M ?_;intro c7 _ _ K _ M;refine oB K (Qg rfl) rfl fun b26 _ e26 K=>?_;cases b26
 ·replace e26:((Ie n19))=true:=by simpa using e26
  refine Qc 6 K M ?_;refine⟨?_,M.qt⟩;rw[jR hn19]
  cases n19 with
  |leaf v=>first|(cases e26;done)|(rw[if_neg (show¬Ie (Bn.leaf v)=true by simp[Ie]),decide_eq_true ht];rfl)
  |fork t' l h=>first|(cases e26;done)|(refine congrArg AV.bool (decide_eq_decide.2 ?_);rw[if_pos (show Ie (Bn.fork t' l h)=true from rfl)];simp only[Ph];omega)
 replace e26:((Ie n19))=false:=by simpa using e26
 refine Qc 6 K M ?_;refine⟨?_,M.qt⟩;rw[jR hn19]
 cases n19 with
 |leaf v=>first|(cases e26;done)|(rw[if_neg (show¬Ie (Bn.leaf v)=true by simp[Ie]),decide_eq_true ht];rfl)
 |fork t' l h=>first|(cases e26;done)|(refine congrArg AV.bool (decide_eq_decide.2 ?_);rw[if_pos (show Ie (Bn.fork t' l h)=true from rfl)];simp only[Ph];omega)

theorem qb(hf:Qj st)(hS:Zm st F sp Tn S)(hi:i<S.length): ∃v st',Ev Tryz.prog Q0 191 [.ptr sp 0 0,iN i] st v st'∧(∃n,S[i]? =some n∧v=iZ (if Ie n then Ph n else-1))∧Qt st st':=by
 obtain⟨ks,cm,hrow,hrd,hlen,hbn⟩:=hS.at_.rd;refine JB Tryz.func191 Tryz.ntmps191 fun T K=>?_;have M:=Mem.start hf;refine Qc 3 K M ?_;intro _ K;refine oQ K M (IL M.fresh (hS.q M.qt) hi) rfl rfl fun _ _ K M=>?_;refine Qc 5 K M ?_;intro _ K;refine p1 K (Qd rfl (Qz (M.JE Q7 hrow.Jb) (Qf UC rfl))) fun _ K=>?_;refine Qc 1 K M ?_;intro _ K;obtain⟨n17,hn17⟩:=U1 S i Qe;obtain⟨x17,m17,f17,q17,_,la17,lo17,lp17⟩:=(Jj.mem M hrd Q7).load (i:=i) (cs:=_) (by rw[List.getElem?_map,hn17];rfl);refine p1 K (Qa (j:=i) YD (congrArg some q17) rfl (by rw[List.length_map];omega)) fun _ K=>p1 K (Qd rfl (lo17 _ 0 _ YS rfl)) fun _ K=>p1 K (LX rfl (RT n17)) fun _ K=>?_;refine au 7 K M ?_;intro c5 _ _ K _ M;refine Qq (K.QH rfl) (fun h22=>?_) (fun h22=>?_)
 ·have hb22:=h22;refine Qc 3 K M ?_;exact⟨⟨n17,hn17,by rw[if_pos h22]⟩,M.qt⟩
 have hb22:=h22;refine Qc 1 K M ?_;exact⟨⟨n17,hn17,by rw[if_neg (by rw[h22];decide)]⟩,M.qt⟩

theorem yy(hf:Qj st)(hS:Zm st F sp Tn S)(hi:i<S.length){t l h:Nat}(hn:S[i]? =some (.fork t l h)): ∃v st',Ev Tryz.prog Q0 192 [.ptr sp 0 0,iN i] st v st'∧v=.tup [iN l,iN h]∧Qt st st':=by
 obtain⟨ks,cm,hrow,hrd,hlen,hbn⟩:=hS.at_.rd;refine JB Tryz.func192 Tryz.ntmps192 fun T K=>?_;have M:=Mem.start hf;refine Qc 4 K M ?_;intro _ K;refine oQ K M (IL M.fresh (hS.q M.qt) hi) rfl rfl fun _ _ K M=>?_;refine Qc 5 K M ?_;intro _ K;refine p1 K (Qd rfl (Qz (M.JE Q7 hrow.Jb) (Qf UC rfl))) fun _ K=>?_;refine Qc 1 K M ?_;intro _ K;obtain⟨n18,hn18⟩:=U1 S i Qe;obtain⟨x18,m18,f18,q18,_,la18,lo18,lp18⟩:=(Jj.mem M hrd Q7).load (i:=i) (cs:=_) (by rw[List.getElem?_map,hn18];rfl);refine p1 K (Qa (j:=i) YD (congrArg some q18) rfl (by rw[List.length_map];omega)) fun _ K=>p1 K (Qd rfl (lo18 _ 0 _ YS rfl)) fun _ K=>p1 K (LX rfl (RT n18)) fun _ K=>?_;refine au 7 K M ?_;intro c6 _ _ K _ M;refine Qq (K.QH rfl) (fun h23=>?_) (fun h23=>?_)
 ·have hb23:=h23;refine QC ?_;refine QF (l:=[(0,0),(1,0),(2,0),(3,0),(4,0),(5,0)]) (by kernel_rfl) ?_;refine Jn 6 K M ?_;intro _ K;refine QI ?_;show W _ _ _ _ _ _ _;refine Qc 0 K M ?_
  rw[hn]at hn18;injection hn18 with hn18;subst hn18
  exact⟨rfl,M.qt⟩
 have hb23:=h23
 (rw[hn]at hn18;injection hn18 with hn18;subst hn18;cases h23)

theorem Mv(hf:Qj st)(v0:Int)(u w:AV): ∃v st',Ev Tryz.prog Q0 211 [.agg [iZ v0],u,w] st v st'∧v=iZ v0∧Qt st st':=by
 refine JB Tryz.func211 Tryz.ntmps211 fun T K=>?_;have M:=Mem.start hf;refine au 5 K M ?_;intro c3 _ _ K _ M;refine Qc 0 K M ?_;exact⟨rfl,M.qt⟩

theorem MF(hf:Qj st)(hS:Zm st F sp Tn S)(h6:Tn≤6)(wf:Xb Tn S){t l h:Nat}(hn:S[i]? =some (.fork t l h))(hc:c≤4611686018427387904)(ih: ∀j,j<i→fm F sp Tn S c j): ∃v st',Ev Tryz.prog Q0 212 [.agg [iN t,iN l,iN h],.ptr sp 0 0,iN c] st v st'∧v=iZ (Y2 S i c)∧Qt st st':=by
 obtain⟨ks,cm,hrow,hrd,hlen,hbn⟩:=hS.at_.rd;obtain⟨w1,w2,w3,w4,w5,w6⟩:=wf.fork _ _ _ _ hn;have hil:=(List.getElem?_eq_some_iff.1 hn).1;refine JB Tryz.func212 Tryz.ntmps212 fun T K=>?_;have M:=Mem.start hf;refine au 5 K M ?_;intro c3 _ _ K _ M;refine p1 K (Xs (a:=c) (n:=t) rfl rfl Qe) fun _ K=>p1 K (Xu (a:=(c/2^t)) rfl rfl (Nat.le_trans (Nat.div_le_self _ _) Qe)) fun _ K=>?_;refine Qc 1 K M ?_;intro _ K;refine JN K rfl (fun h12=>?_) fun h12=>?_
 ·refine QC ?_;refine QF (l:=[(0,0),(1,0),(2,0),(3,0),(4,0),(5,0),(6,0),(7,0),(8,0),(9,0),(10,0),(11,0)]) (by kernel_rfl) ?_;refine Jn 3 K M ?_;intro _ K;refine q1 rfl K (Qd rfl (Qz (M.JE Q7 hrow.Jb) (Qf UC rfl))) fun _ K=>?_;refine Jn 2 K M ?_;intro _ K;obtain⟨n19,hn19⟩:=U1 S h Qe;obtain⟨x19,m19,f19,q19,_,la19,lo19,lp19⟩:=(Jj.mem M hrd Q7).load (i:=h) (cs:=_) (by rw[List.getElem?_map,hn19];rfl);refine q1 rfl K (Qa (j:=h) YD (congrArg some q19) rfl (by rw[List.length_map];omega)) fun _ K=>q1 rfl K (Qd rfl (lo19 _ 0 _ YS rfl)) fun _ K=>?_;refine Jn 2 K M ?_;intro _ K;obtain⟨tt23,uu23,ff23,v23,st23,ei23,em23,ev23,rfl,q23⟩:=ih h Qe _ _ M.fresh (hS.q M.qt) hn19;refine qA rfl K (Iy (show QW _ _ _=_ from congrArg some ei23) em23 rfl ev23) fun _ K=>?_;replace M:=M.quiet q23;refine q1 rfl K (U3 rfl) fun _ K=>QI ?_;show W _ _ _ _ _ _ _;refine Qc 0 K M ?_;exact⟨by rw[VN wf hn,if_pos ((Tt c t).1 h12)],M.qt⟩
 refine Qc 0 K M ?_;intro _ K;refine QF (l:=[(0,0),(1,0),(2,0),(3,0),(4,0),(5,0),(6,0),(7,0),(8,0),(9,0),(10,0),(11,0)]) (by kernel_rfl) ?_;refine Jn 3 K M ?_;intro _ K;refine q1 rfl K (Qd rfl (Qz (M.JE Q7 hrow.Jb) (Qf UC rfl))) fun _ K=>?_;refine Jn 2 K M ?_;intro _ K;obtain⟨n30,hn30⟩:=U1 S l Qe;obtain⟨x30,m30,f30,q30,_,la30,lo30,lp30⟩:=(Jj.mem M hrd Q7).load (i:=l) (cs:=_) (by rw[List.getElem?_map,hn30];rfl);refine q1 rfl K (Qa (j:=l) YD (congrArg some q30) rfl (by rw[List.length_map];omega)) fun _ K=>q1 rfl K (Qd rfl (lo30 _ 0 _ YS rfl)) fun _ K=>?_;refine Jn 2 K M ?_;intro _ K;obtain⟨tt34,uu34,ff34,v34,st34,ei34,em34,ev34,rfl,q34⟩:=ih l Qe _ _ M.fresh (hS.q M.qt) hn30;refine qA rfl K (Iy (show QW _ _ _=_ from congrArg some ei34) em34 rfl ev34) fun _ K=>?_;replace M:=M.quiet q34;refine q1 rfl K (U3 rfl) fun _ K=>QI ?_;show W _ _ _ _ _ _ _;refine Qc 0 K M ?_;exact⟨by rw[VN wf hn,if_neg fun hb=>h12 ((Tt c t).2 hb)],M.qt⟩

theorem ee(h6:Tn≤6)(wf:Xb Tn S)(hc:c≤4611686018427387904): ∀j,j<S.length→fm F sp Tn S c j:=by
 intro j
 induction j using Nat.strongRecOn with
 |_ j ih=>
  intro hj st n hf hS hn
  cases n with
  |leaf v=>
   obtain⟨v',st',ev,rfl,q⟩:=Mv hf v (.ptr sp 0 0) (.int .i64 (c:Nat));exact⟨_,_,_,_,st',rfl,xg,ev,by rw[VM hn],q⟩
  |fork t l h=>
   obtain⟨v',st',ev,rfl,q⟩:=MF hf hS h6 wf hn hc fun k hk=>ih k hk Qe;exact⟨_,_,_,_,st',rfl,xh,ev,rfl,q⟩

theorem RQ(hf:Qj st)(hS:Zm st F sp Tn S)(h6:Tn≤6)(wf:Xb Tn S)(hi:i<S.length)(hc:c<2^Tn): ∃v st',Ev Tryz.prog Q0 74 [.ptr sp 0 0,iN i,iN c] st v st'∧v=iZ (Y2 S i c)∧Qt st st':=by
 obtain⟨ks,cm,hrow,hrd,hlen,hbn⟩:=hS.at_.rd;have hp:=LK (show Tn≤62 by omega);refine JB Tryz.func74 Tryz.ntmps74 fun T K=>?_;have M:=Mem.start hf;refine Qc 3 K M ?_;intro _ K;refine oQ K M (IL M.fresh (hS.q M.qt) hi) rfl rfl fun _ _ K M=>?_;refine Qc 5 K M ?_;intro _ K;refine Un K (Qg rfl) rfl (fun _ e15 K=>?_) fun _ e15 K=>?_
 ·refine Qc 2 K M ?_;intro _ K;obtain⟨v18,st18,ev18,rfl,q18⟩:=VA M.fresh (hS.q M.qt);refine pg K rfl rfl (Qh rfl ev18) fun _ K=>?_;replace M:=M.quiet q18;refine pg K rfl rfl (Yq (n:=Tn) rfl rfl Qe) fun _ K=>?_;refine Qc 2 K M ?_;intro _ K;refine JN K rfl (fun h21=>?_) fun h21=>?_
  ·exfalso;omega
  refine Qc 3 K M ?_;intro _ K;refine p1 K (Qd rfl (Qz (M.JE Q7 hrow.Jb) (Qf UC rfl))) fun _ K=>?_;refine Qc 1 K M ?_;intro _ K;obtain⟨n27,hn27⟩:=U1 S i Qe;obtain⟨x27,m27,f27,q27,_,la27,lo27,lp27⟩:=(Jj.mem M hrd Q7).load (i:=i) (cs:=_) (by rw[List.getElem?_map,hn27];rfl);refine p1 K (Qa (j:=i) YD (congrArg some q27) rfl (by rw[List.length_map];omega)) fun _ K=>p1 K (Qd rfl (lo27 _ 0 _ YS rfl)) fun _ K=>?_;refine Qc 2 K M ?_;intro _ K;obtain⟨tt31,uu31,ff31,v31,st31,ei31,em31,ev31,rfl,q31⟩:=ee (c:=c) h6 wf Qe _ hi _ _ M.fresh (hS.q M.qt) hn27;refine p1 K (Iy (show QW _ _ _=_ from congrArg some ei31) em31 rfl ev31) fun _ K=>?_;replace M:=M.quiet q31;refine Qc 1 K M ?_;exact⟨rfl,M.qt⟩
 exfalso;omega
end Go.Proofs.YtiknomepbklibaaGreatDoor
end
