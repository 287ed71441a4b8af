/-
  What hangs on letters, in memory.
-/
import Derived.Test.YtiknomepbklibaaGreatDoorQsBdP
set_option maxRecDepth 100000
set_option maxHeartbeats 8000000
set_option linter.unnecessarySimpa false
set_option linter.unusedSimpArgs false
set_option linter.unusedVariables false
namespace Go.Proofs.YtiknomepbklibaaGreatDoor
section
open Go Go.RowKit

def ET:Bn→AV
 |.leaf v=>.ifc 193 (.agg [.int .i64 v])
 |.fork t l h=>.ifc 195 (.agg [.int .i64 (t:Nat),.int .i64 (l:Nat),.int .i64 (h:Nat)])
theorem P6(n:Bn):Qr (ET n)=true:=by cases n<;>rfl
theorem BT(u:AV):N8 Tryz.prog 193 u=some (.ifc 193 u):=by kernel_rfl
theorem BU(u:AV):N8 Tryz.prog 195 u=some (.ifc 195 u):=by kernel_rfl
theorem zk(u:AV):KP Tryz.prog (.ifc 195 u) 195 true=some (.tup [u,.bool true]):=by kernel_rfl
theorem zj(u:AV):KP Tryz.prog (.ifc 193 u) 195 true=some (.tup [.agg [.int .i64 0,.int .i64 0,.int .i64 0],.bool false]):=by kernel_rfl
theorem xZ:Av Tryz.prog 193 "sibyl/bdd.at" =some 211:=by kernel_rfl
theorem va:Av Tryz.prog 195 "sibyl/bdd.at" =some 212:=by kernel_rfl
theorem Od(a b:Int):Y0 Tryz.prog 193 [.int .i64 a] [.int .i64 b]=Qj (Hk a b) (some true) (some false):=by kernel_rfl
theorem Oe(a b c x y z:Int):Y0 Tryz.prog 195 [.int .i64 a,.int .i64 b,.int .i64 c] [.int .i64 x,.int .i64 y,.int .i64 z]=Qj (Hk a x) (Qj (Hk b y) (Qj (Hk c z) (some true) (some false)) (some false)) (some false):=by kernel_rfl
theorem RR(l:List AV):KH Tryz.prog (.ifc 193 (.agg l))=aL (Y0 Tryz.prog 193 l l):=by kernel_rfl
theorem RS(l:List AV):KH Tryz.prog (.ifc 195 (.agg l))=aL (Y0 Tryz.prog 195 l l):=by kernel_rfl
theorem yd(a b:List AV):FP Tryz.prog (.ifc 193 (.agg a)) (.ifc 193 (.agg b))=WW (Y0 Tryz.prog 193 a b) a b:=by kernel_rfl
theorem yg(a b:List AV):FP Tryz.prog (.ifc 195 (.agg a)) (.ifc 195 (.agg b))=WW (Y0 Tryz.prog 195 a b) a b:=by kernel_rfl
theorem ye(a b:List AV):FP Tryz.prog (.ifc 193 (.agg a)) (.ifc 195 (.agg b))=some false:=by kernel_rfl
theorem yf(a b:List AV):FP Tryz.prog (.ifc 195 (.agg a)) (.ifc 193 (.agg b))=some false:=by kernel_rfl
theorem qY: ∃ms,Tryz.prog.underlying 132=some (.interface ms):=⟨_,Tryz.underlying132⟩
theorem zY:Tryz.prog.underlying 123=some (.map 132 3):=by kernel_rfl
theorem uS:VR Tryz.prog 123 ET (.int .i64 0):=by
 obtain⟨ms,hu⟩:=qY
 have eb: ∀(a:Int),Hk a a=true:=fun a=>by rw[Yw];exact decide_eq_true rfl
 refine⟨132,3,.interface ms,zY,hu,by kernel_rfl,fun a=>?_,fun a i=>rfl,fun a b v n es i=>?_⟩
 ·cases a with
  |leaf v=>
   show KH Tryz.prog (.ifc 193 (.agg [.int .i64 v]))=true;rw[RR,Od,eb];rfl
  |fork t l h=>
   show KH Tryz.prog (.ifc 195 (.agg [.int .i64 (t:Nat),.int .i64 (l:Nat),.int .i64 (h:Nat)]))=true;rw[RS,Oe,eb,eb,eb];rfl
 ·have e:Yz Tryz.prog 132 (.interface ms) (ET a) ((ET b,v,n)::es) i=ob (FP Tryz.prog (ET a) (ET b)) fun q=>Qj q (some (some (i,v))) (Yz Tryz.prog 132 (.interface ms) (ET a) es (i+1)):=by
   exact E4 _ _ _ _ _ _ _
  have e2:(a=b→FP Tryz.prog (ET a) (ET b)=some true)∧(a≠b→FP Tryz.prog (ET a) (ET b)=some false):=by
   cases a with
   |leaf x=>
    cases b with
    |leaf y=>
     rw[ET,ET,yd,Od,Yw]
     by_cases h:x=y
     ·subst h;exact⟨fun _=>by simp[Q0,WW,Gl,O0,WV,eb,QO],fun h=>absurd rfl h⟩
     ·exact⟨fun e=>by injection e with e;exact absurd e h,fun _=>by simp[h,Qs,WW]⟩
    |fork t l h'=>rw[ET,ET,ye];exact⟨fun e=>(by cases e),fun _=>rfl⟩
   |fork t l h'=>
    cases b with
    |leaf y=>rw[ET,ET,yf];exact⟨fun e=>(by cases e),fun _=>rfl⟩
    |fork t2 l2 h2=>
     rw[ET,ET,yg,Oe,Yw,Yw,Yw]
     by_cases h1:t=t2
     ·by_cases h3:l=l2
      ·by_cases h4:h'=h2
       ·subst h1 h3 h4;exact⟨fun _=>by simp[Q0,WW,Gl,O0,WV,eb,QO],fun h=>absurd rfl h⟩
       ·exact⟨fun e=>by injection e with _ _ e;exact absurd e h4,fun _=>by simp[h1,h3,show¬((h':Int)=(h2:Int)) by omega,Q0,Qs,WW]⟩
      ·exact⟨fun e=>by injection e with _ e;exact absurd e h3,fun _=>by simp[h1,show¬((l:Int)=(l2:Int)) by omega,Q0,Qs,WW]⟩
     ·exact⟨fun e=>by injection e with e;exact absurd e h1,fun _=>by simp[show¬((t:Int)=(t2:Int)) by omega,Qs,WW]⟩
  rw[e];refine⟨fun h=>?_,fun h=>?_⟩
  ·rw[e2.1 h];rfl
  ·rw[e2.2 h];rfl
def VE:Nat→U7→List (Bn×AV)
 |_,[]=>[]
 |j,n::S=>(n,.int .i64 (j:Nat))::VE (j+1) S
theorem GZ: ∀(j:Nat) (S:U7) (n:Bn),VE j (S++[n])=VE j S++[(n,.int .i64 (j+S.length:Nat))]
 |j,[],n=>by simp[VE]
 |j,x::S,n=>by
  rw[List.cons_append,VE,VE,GZ (j+1) S n,List.cons_append,List.length_cons,show j+1+S.length=j+(S.length+1) by omega]
theorem Pm: ∀{j:Nat} {S:U7} {n:Bn} {v:AV},(n,v)∈VE j S→ ∃i:Nat,S[i]? =some n∧v=.int .i64 (j+i:Nat)
 |j,[],n,v,h=>by cases h
 |j,x::S,n,v,h=>by
  rcases List.mem_cons.1 h with e|h
  ·injection e with e1 e2
   subst e1 e2;exact⟨0,rfl,rfl⟩
  ·obtain⟨i,h1,h2⟩:=Pm h;exact⟨i+1,h1,by rw[h2];congr 2;omega⟩
theorem DB: ∀{j:Nat} {S:U7} {n:Bn},n∈S→ ∃v,(n,v)∈VE j S
 |j,[],n,h=>by cases h
 |j,x::S,n,h=>by
  rcases List.mem_cons.1 h with rfl|h
  ·exact⟨_,List.mem_cons_self ..⟩
  ·obtain⟨v,hv⟩:=DB (j:=j+1) h;exact⟨v,List.mem_cons_of_mem _ hv⟩
theorem vd{S:U7}{n:Bn}(h:Yp (VE 0 S) n=none):n∉S:=fun hm=>by
 obtain⟨v,hv⟩:=DB (j:=0) hm;exact NG h v hv
theorem vc{S:U7}{n:Bn}{v:AV}(h:Yp (VE 0 S) n=some v): ∃i:Nat,S[i]? =some n∧v=.int .i64 (i:Nat):=by
 obtain⟨i,h1,h2⟩:=Pm (L8 h);exact⟨i,h1,by rw[h2,Nat.zero_add]⟩
def Xs(R:QM):Ob:=⟨fun c=> ∃m l,(c,m,l)∈R,fun h=> ∀c m l,(c,m,l)∈R→Qx h c m l,fun h h' e H c m l hm=>(H c m l hm).frame (e c ⟨m,l,hm⟩)⟩
def AO(h:Hp)(F:Fp)(sp T:Nat)(S:U7):Prop:=
 ∃ks cm A,Qx h sp 0 [.int .i64 (T:Nat),ks,.mp cm]∧F sp∧F cm∧sp≠cm∧(Wp cm ET (VE 0 S)).H h∧YS A ks (S.map ET)∧ ∀c m l,(c,m,l)∈A→Qx h c m l∧F c∧c≠sp∧c≠cm
theorem AO.frame{h h':Hp}{F:Fp}{sp T:Nat}{S:U7}(e: ∀c,F c→h' c=h c)(H:AO h F sp T S):AO h' F sp T S:=by
 obtain⟨ks,cm,A,h1,h2,h3,h4,h5,h6,h7⟩:=H;exact⟨ks,cm,A,h1.frame (e sp h2),h2,h3,h4,(Wp cm ET (VE 0 S)).fr _ _ (fun c hc=>by have hc:c=cm:=hc;rw[hc];exact e cm h3) h5,h6,fun c m l hm=>⟨(h7 c m l hm).1.frame (e c (h7 c m l hm).2.1),(h7 c m l hm).2⟩⟩
def XG(F:Fp)(sp T:Nat)(S:U7):Ob:=⟨F,fun h=>AO h F sp T S,fun _ _ e H=>H.frame e⟩
theorem AO.rd{h:Hp}{F:Fp}{sp T:Nat}{S:U7}(H:AO h F sp T S): ∃ks cm,Qx h sp 0 [.int .i64 (T:Nat),ks,.mp cm]∧Jg h [] 1 (S.map fun n=>[ET n]) ks∧YD ks=some S.length∧S.length≤1000000000:=by
 obtain⟨ks,cm,A,h1,h2,h3,h4,h5,h6,h7⟩:=H;have hr:=h6.rd fun c m l hm=>(h7 c m l hm).1;have hl:=h6.len;rw[List.length_map]at hl;rw[List.map_map]at hr;refine⟨ks,cm,h1,hr,hl,?_⟩;generalize hv:S.map ET=vs at h6;have hl2:=congrArg List.length hv;rw[List.length_map]at hl2
 cases h6 with
 |none=>rw[hl2];simp
 |own hb=>rw[hl2];exact hb
section
variable {st0 st:St} {X0:Fp} {M:QM} {Os:List Ob} {F:Fp} {sp T cm:Nat} {S:U7} {ks:AV} {A:QM}
theorem Qk.fC(B:Qk st0 X0 st M (XG F sp T S::Os)): ∃ks cm A,Qk st0 X0 st (((sp,0,[.int .i64 (T:Nat),ks,.mp cm])::A)++M) (Wp cm ET (VE 0 S)::Os)∧YS A ks (S.map ET):=by
 obtain⟨ks,cm,A,h1,h2,h3,h4,h5,h6,h7⟩:=B.at_ (k:=0) rfl;refine⟨ks,cm,A,B.wF (fun c m l hm=>?_) ?_ h5 (fun c hc=>by have hc:c=cm:=hc;rw[hc];exact h3) fun c m l hm hc=>?_,h6⟩
 ·rcases List.mem_cons.1 hm with e|hm
  ·injection e with e1 e;injection e with e2 e3;subst e1 e2 e3
   exact⟨h1,h2⟩
  ·exact⟨(h7 c m l hm).1,(h7 c m l hm).2.1⟩
 ·rw[List.map_cons];refine List.nodup_cons.2 ⟨fun hm=>?_,h6.nodup⟩;obtain⟨⟨c,m,l⟩,e1,e2⟩:=List.mem_map.1 hm;exact(h7 c m l e1).2.2.1 e2
 ·have hc:c=cm:=hc;subst hc;rcases List.mem_cons.1 hm with e|hm
  ·injection e with e1 e;exact h4 e1.symm
  ·exact(h7 _ m l hm).2.2.2 rfl
theorem Qk.Sm(B:Qk st0 X0 st (((sp,0,[.int .i64 (T:Nat),ks,.mp cm])::A)++M) (Wp cm ET (VE 0 S)::Os))(hA:YS A ks (S.map ET)): ∃F,Qk st0 X0 st M (XG F sp T S::Os):=by
 have hnd:=B.nodup;rw[List.cons_append,List.map_cons]at hnd;have hn1:=(List.nodup_cons.1 hnd).1;have hdj: ∀c m l,(c,m,l)∈((sp,0,[.int .i64 (T:Nat),ks,.mp cm])::A)++M→c≠cm:=fun c m l hm e=>B.djM (Wp cm ET (VE 0 S)) Q4 c m l hm e;have B1:=B.freeze (o:=Xs ((sp,0,[.int .i64 (T:Nat),ks,.mp cm])::A)) (fun c m l hm=>B.row c m l (List.mem_append_left _ hm)) (fun c hc=>hc);refine⟨fun c=>(Xs ((sp,0,[.int .i64 (T:Nat),ks,.mp cm])::A)).F c∨c=cm,B1.join (fun h1 h2=>?_) fun c hc=>hc⟩;refine⟨ks,cm,A,h1 _ _ _ Q4,.inl ⟨_,_,List.mem_cons_self ..⟩,.inr rfl,fun e=>?_,h2,hA,fun c m l hm=>⟨h1 _ _ _ (List.mem_cons_of_mem _ hm),.inl ⟨m,l,List.mem_cons_of_mem _ hm⟩,fun e=>?_,fun e=>?_⟩⟩
 ·exact hdj sp _ _ (List.mem_cons_self ..) e
 ·subst e;exact hn1 (List.mem_map.2 ⟨(_,m,l),List.mem_append_left _ hm,rfl⟩)
 ·exact hdj c m l (by simp[hm]) e
end
def Vb(st st':St)(F:Fp)(sp T:Nat)(S':U7):Prop:= ∃F',AO st'.h.get F' sp T S'∧Ee st st' F F'∧UQ F st st'
theorem Qk.Nv{st0 st:St}{F F':Fp}{M:QM}{Os:List Ob}{sp T:Nat}{S':U7}(B:Qk st0 F st M (XG F' sp T S'::Os)):Vb st0 st F sp T S':=
 ⟨F',B.at_ (k:=0) rfl,fun c hc=>⟨(B.L7 (k:=0) rfl c hc).symm,B.Y3 (k:=0) rfl c hc⟩,B.JM⟩
theorem Qk.Wf{st0 st st':St}{X0 F:Fp}{M:QM}{Os:List Ob}{sp T:Nat}{S S':U7}(B:Qk st0 X0 st M (XG F sp T S::Os))(h:Vb st st' F sp T S'): ∃F',Qk st0 X0 st' M (XG F' sp T S'::Os):=by
 obtain⟨F',h1,h2,h3⟩:=h;exact⟨F',B.call (k:=0) rfl h3 (o':=XG F' sp T S') h1 h2⟩
theorem CD.app{S:U7}{n:Bn}(h:n∉S):CD S n S.length (S++[n]):=.inr ⟨h,rfl,rfl⟩
theorem BW(S:U7)(n:Bn):S.map ET++[ET n]=(S++[n]).map ET:=by simp
end
section
open Go Go.RowKit
variable {F:Fp} {S:U7} {Tn c i sp:Nat} {st:St}

structure Zm(st:St)(F:Fp)(sp T:Nat)(S:U7):Prop where
 at_:AO st.h.get F sp T S
 hi: ∀c,F c→c<st.n
theorem Zm.q{st st':St}{F:Fp}{sp T:Nat}{S:U7}(hS:Zm st F sp T S)(q:Qt st st'):Zm st' F sp T S:=⟨hS.at_.frame fun c hc=>q.J9 c (hS.hi c hc),fun c hc=>Nat.lt_of_lt_of_le (hS.hi c hc) q.le⟩
theorem Qk.Kx{st0:St}{X0:Fp}{M:QM}{Os:List Ob}{T:Nat}(B:Qk st0 X0 st M Os){k:Nat}(hk:Os[k]? =some (XG F sp T S)):Zm st F sp T S:=⟨B.at_ hk,B.Y3 hk⟩
def P7:Bn→Int
 |.leaf _=>0
 |.fork t _ _=>((t:Nat):Int)
def iy:Bn→Nat
 |.leaf _=>0
 |.fork _ l _=>l
def iz:Bn→Nat
 |.leaf _=>0
 |.fork _ _ h=>h
def I3:Bn→Bool
 |.leaf _=>false
 |.fork _ _ _=>true
theorem u9{T:Nat}{n:Bn}(h:S[i]? =some n):lvl T S i=if I3 n then(P7 n).toNat else T:=by
 unfold lvl;rw[h];cases n<;>simp[I3,P7]
theorem S6(n:Bn):KP Tryz.prog (ET n) 195 true=some (.tup [.agg [.int .i64 (P7 n),.int .i64 (iy n:Nat),.int .i64 (iz n:Nat)],.bool (I3 n)]):=by
 cases n with
 |leaf v=>exact zj _
 |fork t l h=>exact zk _
def iP(F:Fp)(sp Tn:Nat)(S:U7)(c j:Nat):Prop:= ∀(st:St) (n:Bn),Qi st→Zm st F sp Tn S→S[j]? =some n→
 ∃t u fid v st',ET n=.ifc t u∧Av Tryz.prog t "sibyl/bdd.at" =some fid∧Jf fid [u,.ptr sp 0 0,.int .i64 (c:Nat)] st v st'∧v=.int .i64 (Y4 S j c)∧Qt st st'
def IX{α:Type}(p:α→Bool):List α→Nat→Int
 |[],_=> -1
 |k::l,i=>if p k then(i:Int)else IX p l (i+1)
theorem Ff{α:Type}{p:α→Bool}{l:List α}{k:α}(h:l[i]? =some k):IX p (l.drop i) i=if p k then(i:Int)else IX p (l.drop (i+1)) (i+1):=by
 obtain⟨h1,h2⟩:=List.getElem?_eq_some_iff.1 h;rw[List.drop_eq_getElem_cons h1,IX,h2]
theorem DX{α:Type}{p:α→Bool}{l:List α}(h:l.length≤i):IX p (l.drop i) i= -1:=by rw[List.drop_eq_nil_of_le h];rfl
theorem DY{α:Type}(p:α→Bool): ∀(l:List α) (i:Nat),decide (0≤IX p l i)=l.any p:=by
 intro l
 induction l with
 |nil=>intro i;rfl
 |cons k l ih=>
  intro i;rw[IX,List.any_cons]
  cases hp:p k with
  |true=>rw[if_pos rfl];simp
  |false=>rw[if_neg Q8,ih];rfl

theorem VL(hf:Qi st)(hS:Zm st F sp Tn S): ∃v st',Jf 64 [.ptr sp 0 0] st v st'∧v=iN Tn∧Qt st st':=by
 obtain⟨ks,cm,hrow,hrd,hlen,hbn⟩:=hS.at_.rd;refine J7 Tryz.func64 Tryz.ntmps64 fun T K=>?_;have M:=Mem.start hf;refine Qb 2 K M fun _ K=>?_;refine p1 K (Yg ZU rfl rfl) fun _ K=>?_;refine Qb 4 K M fun _ K=>?_;refine p1 K (Qg rfl (Qw (M.JF Q4 hrow.Jb) (Qd Qn rfl))) fun _ K=>?_;refine Qb 1 K M ?_;exact⟨rfl,M.qt⟩

theorem TN(hf:Qi st)(hS:Zm st F sp Tn S): ∃v st',Jf 97 [.ptr sp 0 0] st v st'∧v=iZ (S.length:Nat)∧Qt st st':=by
 obtain⟨ks,cm,hrow,hrd,hlen,hbn⟩:=hS.at_.rd;refine J7 Tryz.func97 Tryz.ntmps97 fun T K=>?_;have M:=Mem.start hf;refine Qb 2 K M fun _ K=>?_;refine p1 K (Yg ZU rfl rfl) fun _ K=>?_;refine Qb 4 K M fun _ K=>?_;refine p1 K (Qg rfl (Qw (M.JF Q4 hrow.Jb) (Qd UE rfl))) fun _ K=>p1 K (Q5 X7 rfl rfl hlen) fun _ K=>?_;refine Qb 1 K M ?_;exact⟨rfl,M.qt⟩

theorem Ki(hf:Qi st)(hS:Zm st F sp Tn S)(hi:i<S.length): ∃v st',Jf 73 [.ptr sp 0 0,iN i] st v st'∧v=.bool true∧Qt st st':=by
 obtain⟨ks,cm,hrow,hrd,hlen,hbn⟩:=hS.at_.rd;refine J7 Tryz.func73 Tryz.ntmps73 fun T K=>?_;have M:=Mem.start hf;refine Qb 3 K M fun _ K=>?_;refine Ug K rfl (fun _ e7 K=>?_) fun _ e7 K=>?_
 ·exfalso;omega
 refine Qb 2 K M fun _ K=>?_;obtain⟨v10,st10,ev10,rfl,q10⟩:=TN M.fresh (hS.q M.qt);refine pg K rfl rfl (Qf rfl ev10) fun _ K=>?_;replace M:=M.quiet q10;refine Qb 3 K M ?_;exact⟨congrArg AV.bool (decide_eq_true Qc),M.qt⟩

theorem Bi(hf:Qi st)(hS:Zm st F sp Tn S)(hi:i<S.length)(t:Nat)(ht:t<Tn): ∃v st',Jf 151 [.ptr sp 0 0,iN i,iN t] st v st'∧v=.bool (decide (t<lvl Tn S i))∧Qt st st':=by
 obtain⟨ks,cm,hrow,hrd,hlen,hbn⟩:=hS.at_.rd;refine J7 Tryz.func151 Tryz.ntmps151 fun T K=>?_;have M:=Mem.start hf;refine Qb 3 K M fun _ K=>?_;refine oQ K M (Ki M.fresh (hS.q M.qt) hi) rfl rfl fun _ _ K M=>?_;refine Qb 5 K M fun _ K=>?_;refine p1 K (Qg rfl (Qw (M.JF Q4 hrow.Jb) (Qd UE rfl))) fun _ K=>?_;refine Qb 1 K M fun _ K=>?_;obtain⟨n19,hn19⟩:=Uy S i Qc;refine oI (Jg.mem M hrd Q4) (by rw[List.getElem?_map,hn19];rfl) K YH YV rfl rfl rfl fun _ _ _ _ K=>?_;refine p1 K (N0 rfl (S6 n19)) fun _ K=>?_;refine au 8 K M ?_;intro c7 _ _ K _ M;refine oB K (Qy rfl) rfl fun b26 _ e26 K=>?_;cases b26
 ·replace e26:((I3 n19))=true:=by simpa using e26
  refine Qb 6 K M ?_;refine⟨?_,M.qt⟩;rw[u9 hn19]
  cases n19 with
  |leaf v=>first|(cases e26;done)|(rw[if_neg (show¬I3 (Bn.leaf v)=true by simp[I3]),decide_eq_true ht];rfl)
  |fork t' l h=>first|(cases e26;done)|(refine congrArg AV.bool (decide_eq_decide.2 ?_);rw[if_pos (show I3 (Bn.fork t' l h)=true from rfl)];simp only[P7];omega)
 replace e26:((I3 n19))=false:=by simpa using e26
 refine Qb 6 K M ?_;refine⟨?_,M.qt⟩;rw[u9 hn19]
 cases n19 with
 |leaf v=>first|(cases e26;done)|(rw[if_neg (show¬I3 (Bn.leaf v)=true by simp[I3]),decide_eq_true ht];rfl)
 |fork t' l h=>first|(cases e26;done)|(refine congrArg AV.bool (decide_eq_decide.2 ?_);rw[if_pos (show I3 (Bn.fork t' l h)=true from rfl)];simp only[P7];omega)

theorem qC(hf:Qi st)(hS:Zm st F sp Tn S)(hi:i<S.length): ∃v st',Jf 191 [.ptr sp 0 0,iN i] st v st'∧(∃n,S[i]? =some n∧v=iZ (if I3 n then P7 n else-1))∧Qt st st':=by
 obtain⟨ks,cm,hrow,hrd,hlen,hbn⟩:=hS.at_.rd;refine J7 Tryz.func191 Tryz.ntmps191 fun T K=>?_;have M:=Mem.start hf;refine Qb 3 K M fun _ K=>?_;refine oQ K M (Ki M.fresh (hS.q M.qt) hi) rfl rfl fun _ _ K M=>?_;refine Qb 5 K M fun _ K=>?_;refine p1 K (Qg rfl (Qw (M.JF Q4 hrow.Jb) (Qd UE rfl))) fun _ K=>?_;refine Qb 1 K M fun _ K=>?_;obtain⟨n17,hn17⟩:=Uy S i Qc;refine oI (Jg.mem M hrd Q4) (by rw[List.getElem?_map,hn17];rfl) K YH YV rfl rfl rfl fun _ _ _ _ K=>?_;refine p1 K (N0 rfl (S6 n17)) fun _ K=>?_;refine au 7 K M ?_;intro c5 _ _ K _ M;refine Uq K rfl (fun h22=>?_) fun h22=>?_
 ·have hb22:=h22;refine Qb 3 K M ?_;exact⟨⟨n17,hn17,by rw[if_pos h22]⟩,M.qt⟩
 have hb22:=h22;refine Qb 1 K M ?_;exact⟨⟨n17,hn17,by rw[if_neg (by rw[h22];decide)]⟩,M.qt⟩

theorem ze(hf:Qi st)(hS:Zm st F sp Tn S)(hi:i<S.length){t l h:Nat}(hn:S[i]? =some (.fork t l h)): ∃v st',Jf 192 [.ptr sp 0 0,iN i] st v st'∧v=.tup [iN l,iN h]∧Qt st st':=by
 obtain⟨ks,cm,hrow,hrd,hlen,hbn⟩:=hS.at_.rd;refine J7 Tryz.func192 Tryz.ntmps192 fun T K=>?_;have M:=Mem.start hf;refine Qb 4 K M fun _ K=>?_;refine oQ K M (Ki M.fresh (hS.q M.qt) hi) rfl rfl fun _ _ K M=>?_;refine Qb 5 K M fun _ K=>?_;refine p1 K (Qg rfl (Qw (M.JF Q4 hrow.Jb) (Qd UE rfl))) fun _ K=>?_;refine Qb 1 K M fun _ K=>?_;obtain⟨n18,hn18⟩:=Uy S i Qc;refine oI (Jg.mem M hrd Q4) (by rw[List.getElem?_map,hn18];rfl) K YH YV rfl rfl rfl fun _ _ _ _ K=>?_;refine p1 K (N0 rfl (S6 n18)) fun _ K=>?_;refine au 7 K M ?_;intro c6 _ _ K _ M;refine Uq K rfl (fun h23=>?_) fun h23=>?_
 ·have hb23:=h23;refine Jy ?_;refine QA (l:=[(0,0),(1,0),(2,0),(3,0),(4,0),(5,0)]) (by kernel_rfl) ?_;refine Jo 6 K M fun _ K=>?_;refine QF ?_;show W _ _ _ _ _ _ _;refine Qb 0 K M ?_
  rw[hn]at hn18;injection hn18 with hn18;subst hn18
  exact⟨rfl,M.qt⟩
 have hb23:=h23
 (rw[hn]at hn18;injection hn18 with hn18;subst hn18;cases h23)

theorem MM(hf:Qi st)(v0:Int)(u w:AV): ∃v st',Jf 211 [.agg [iZ v0],u,w] st v st'∧v=iZ v0∧Qt st st':=by
 refine J7 Tryz.func211 Tryz.ntmps211 fun T K=>?_;have M:=Mem.start hf;refine au 5 K M ?_;intro c3 _ _ K _ M;refine Qb 0 K M ?_;exact⟨rfl,M.qt⟩

theorem qf(hf:Qi st)(hS:Zm st F sp Tn S)(h6:Tn≤6)(wf:Xn Tn S){t l h:Nat}(hn:S[i]? =some (.fork t l h))(hc:c≤4611686018427387904)(ih: ∀j,j<i→iP F sp Tn S c j): ∃v st',Jf 212 [.agg [iN t,iN l,iN h],.ptr sp 0 0,iN c] st v st'∧v=iZ (Y4 S i c)∧Qt st st':=by
 obtain⟨ks,cm,hrow,hrd,hlen,hbn⟩:=hS.at_.rd;obtain⟨w1,w2,w3,w4,w5,w6⟩:=wf.fork _ _ _ _ hn;have hil:=(List.getElem?_eq_some_iff.1 hn).1;refine J7 Tryz.func212 Tryz.ntmps212 fun T K=>?_;have M:=Mem.start hf;refine au 5 K M ?_;intro c3 _ _ K _ M;refine p1 K (ZX (a:=c) (n:=t) rfl rfl Qc) fun _ K=>p1 K (Z0 (a:=(c/2^t)) rfl rfl (Nat.le_trans (Nat.div_le_self _ _) Qc)) fun _ K=>?_;refine Qb 1 K M fun _ K=>?_;refine Jt K rfl (fun h12=>?_) fun h12=>?_
 ·refine Jy ?_;refine QA (l:=[(0,0),(1,0),(2,0),(3,0),(4,0),(5,0),(6,0),(7,0),(8,0),(9,0),(10,0),(11,0)]) (by kernel_rfl) ?_;refine Jo 3 K M fun _ K=>?_;refine q1 rfl K (Qg rfl (Qw (M.JF Q4 hrow.Jb) (Qd UE rfl))) fun _ K=>?_;refine Jo 2 K M fun _ K=>?_;obtain⟨n19,hn19⟩:=Uy S h Qc;refine dI rfl rfl (Jg.mem M hrd Q4) (by rw[List.getElem?_map,hn19];rfl) K YH YV rfl rfl rfl fun _ _ _ _ K=>?_;refine Jo 2 K M fun _ K=>?_;obtain⟨tt23,uu23,ff23,v23,st23,ei23,em23,ev23,rfl,q23⟩:=ih h Qc _ _ M.fresh (hS.q M.qt) hn19;refine qA rfl K (IL (show QT _ _ _=_ from congrArg some ei23) em23 rfl ev23) fun _ K=>?_;replace M:=M.quiet q23;refine q1 rfl K (JV rfl) fun _ K=>QF ?_;show W _ _ _ _ _ _ _;refine Qb 0 K M ?_;exact⟨by rw[We wf hn,if_pos ((TG c t).1 h12)],M.qt⟩
 refine Qb 0 K M fun _ K=>?_;refine QA (l:=[(0,0),(1,0),(2,0),(3,0),(4,0),(5,0),(6,0),(7,0),(8,0),(9,0),(10,0),(11,0)]) (by kernel_rfl) ?_;refine Jo 3 K M fun _ K=>?_;refine q1 rfl K (Qg rfl (Qw (M.JF Q4 hrow.Jb) (Qd UE rfl))) fun _ K=>?_;refine Jo 2 K M fun _ K=>?_;obtain⟨n30,hn30⟩:=Uy S l Qc;refine dI rfl rfl (Jg.mem M hrd Q4) (by rw[List.getElem?_map,hn30];rfl) K YH YV rfl rfl rfl fun _ _ _ _ K=>?_;refine Jo 2 K M fun _ K=>?_;obtain⟨tt34,uu34,ff34,v34,st34,ei34,em34,ev34,rfl,q34⟩:=ih l Qc _ _ M.fresh (hS.q M.qt) hn30;refine qA rfl K (IL (show QT _ _ _=_ from congrArg some ei34) em34 rfl ev34) fun _ K=>?_;replace M:=M.quiet q34;refine q1 rfl K (JV rfl) fun _ K=>QF ?_;show W _ _ _ _ _ _ _;refine Qb 0 K M ?_;exact⟨by rw[We wf hn,if_neg fun hb=>h12 ((TG c t).2 hb)],M.qt⟩

theorem aw(h6:Tn≤6)(wf:Xn Tn S)(hc:c≤4611686018427387904): ∀j,j<S.length→iP F sp Tn S c j:=by
 intro j
 induction j using Nat.strongRecOn with
 |_ j ih=>
  intro hj st n hf hS hn
  cases n with
  |leaf v=>
   obtain⟨v',st',ev,rfl,q⟩:=MM hf v (.ptr sp 0 0) (.int .i64 (c:Nat));exact⟨_,_,_,_,st',rfl,xZ,ev,by rw[Wd hn],q⟩
  |fork t l h=>
   obtain⟨v',st',ev,rfl,q⟩:=qf hf hS h6 wf hn hc fun k hk=>ih k hk Qc;exact⟨_,_,_,_,st',rfl,va,ev,rfl,q⟩

theorem Sy(hf:Qi st)(hS:Zm st F sp Tn S)(h6:Tn≤6)(wf:Xn Tn S)(hi:i<S.length)(hc:c<2^Tn): ∃v st',Jf 74 [.ptr sp 0 0,iN i,iN c] st v st'∧v=iZ (Y4 S i c)∧Qt st st':=by
 obtain⟨ks,cm,hrow,hrd,hlen,hbn⟩:=hS.at_.rd;have hp:=Nn (show Tn≤62 by omega);refine J7 Tryz.func74 Tryz.ntmps74 fun T K=>?_;have M:=Mem.start hf;refine Qb 3 K M fun _ K=>?_;refine oQ K M (Ki M.fresh (hS.q M.qt) hi) rfl rfl fun _ _ K M=>?_;refine Qb 5 K M fun _ K=>?_;refine Ug K rfl (fun _ e15 K=>?_) fun _ e15 K=>?_
 ·refine Qb 2 K M fun _ K=>?_;obtain⟨v18,st18,ev18,rfl,q18⟩:=VL M.fresh (hS.q M.qt);refine pg K rfl rfl (Qf rfl ev18) fun _ K=>?_;replace M:=M.quiet q18;refine pg K rfl rfl (US (n:=Tn) rfl rfl Qc) fun _ K=>?_;refine Qb 2 K M fun _ K=>?_;refine Jt K rfl (fun h21=>?_) fun h21=>?_
  ·exfalso;omega
  refine Qb 3 K M fun _ K=>?_;refine p1 K (Qg rfl (Qw (M.JF Q4 hrow.Jb) (Qd UE rfl))) fun _ K=>?_;refine Qb 1 K M fun _ K=>?_;obtain⟨n27,hn27⟩:=Uy S i Qc;refine oI (Jg.mem M hrd Q4) (by rw[List.getElem?_map,hn27];rfl) K YH YV rfl rfl rfl fun _ _ _ _ K=>?_;refine Qb 2 K M fun _ K=>?_;obtain⟨tt31,uu31,ff31,v31,st31,ei31,em31,ev31,rfl,q31⟩:=aw (c:=c) h6 wf Qc _ hi _ _ M.fresh (hS.q M.qt) hn27;refine p1 K (IL (show QT _ _ _=_ from congrArg some ei31) em31 rfl ev31) fun _ K=>?_;replace M:=M.quiet q31;refine Qb 1 K M ?_;exact⟨rfl,M.qt⟩
 exfalso;omega
end
section
open Go Go.RowKit
variable {F:Fp} {S:U7} {T Tn a c sp t:Nat} {fa fc:List AV} {fo:FuncId} {kl kr:AV} {l row:List Int} {st:St} {x:Int}

theorem JG(h:T≤6):2^T≤64:=Nat.le_trans (Nat.pow_le_pow_right Q8 h) Q8
theorem Ml(S:U7)(i:Nat)(h:c<2^T):(WE T S i).take (c+1)=(WE T S i).take c++[Y4 S i c]:=by
 rw[List.take_add_one,Nj S i h];rfl
def MU(t a c:Nat):Nat:=a+c/2^t *2^t
theorem vh(h:c.testBit t=false):MU (t+1) a c=MU t a c:=by
 unfold MU
 have h1:c/2^t % 2=0:=by
  rw[Nat.testBit_eq_decide_div_mod_eq,decide_eq_false_iff_not]at h;omega
 have h2:c/2^(t+1)=c/2^t/2:=by rw[Nat.pow_succ,Nat.div_div_eq_div_mul]
 rw[h2,Nat.pow_succ]
 have h3:c/2^t/2 *2=c/2^t:=by omega
 rw[Nat.mul_comm (2^t) 2,←Nat.mul_assoc,h3]
theorem uW(h:c.testBit t=true):MU (t+1) (a+2^t) c=MU t a c:=by
 unfold MU
 have h1:c/2^t % 2=1:=by
  rw[Nat.testBit_eq_decide_div_mod_eq,decide_eq_true_eq]at h;exact h
 have h2:c/2^(t+1)=c/2^t/2:=by rw[Nat.pow_succ,Nat.div_div_eq_div_mul]
 rw[h2,Nat.pow_succ]
 have h3:c/2^t/2 *2+1=c/2^t:=by omega
 rw[Nat.mul_comm (2^t) 2,←Nat.mul_assoc]
 conv=>rhs;rw[←h3]
 rw[Nat.succ_mul];omega
theorem eh(h:a<2^t):a|||2^t=a+2^t:=by
 have:=Nat.two_pow_add_eq_or_of_lt h 1;rw[Nat.mul_one]at this;rw[Nat.or_comm,←this,Nat.add_comm]
theorem Nx{P:Program}{G:Env}{K:List (Nat×AV)}{t yt:TypeId}{x y:Operand}{b e:Nat}(he:a|||b=e)(hx:QT G K x=some (.int .i64 (a:Nat)))(hy:QT G K y=some (.int .i64 (b:Nat)))(ha:a≤9223372036854775807)(hb:b≤9223372036854775807):U2 P G K (.binOp .or t x y yt) st (.int .i64 (e:Nat)) st:=he▸BN hx hy ha hb
theorem Wh.more{S':U7}{k k' i:Nat}(h:Wh T S k S' i)(hk:k≤k'):Wh T S k' S' i:=⟨h.wf,h.pre,h.lt,Nat.le_trans h.len Qc⟩
theorem vF(hf:Qi st)(hS:Zm st F sp Tn S)(h6:Tn≤6)(wf:Xn Tn S){i:Nat}(hi:i<S.length): ∃v st',Jf 49 [.ptr sp 0 0,iN i] st v st'∧ ∃kr,v=kr∧ED st st' 1 kr (zC (WE Tn S i))∧Qt st st':=by
 have hp:=JG h6;refine J7 Tryz.func49 Tryz.ntmps49 fun T K=>?_;have M:=Mem.start hf;refine Qb 3 K M fun _ K=>?_;obtain⟨v9,st9,ev9,rfl,q9⟩:=Ki M.fresh (hS.q M.qt) hi;refine p1 K (Qf rfl ev9) fun _ K=>?_;replace M:=M.quiet q9;refine Qb 4 K M fun _ K=>?_;refine oQ K M (VL M.fresh (hS.q M.qt)) rfl rfl fun _ _ K M=>?_;refine p1 K (US (n:=Tn) rfl rfl Qc) fun _ K=>?_;refine Qb 1 K M fun _ K=>?_;refine QX (fun mm1 T st9=> ∃(c:Nat) (kr:AV) (A:U9),mm1=2^Tn-c∧QS [(0,.ptr sp 0 0),(1,iN i),(4,.nils),(5,kr),(13,iZ (2^Tn:Nat)),(14,iN c)] T∧Mem st.h.get st.n [] st9 (A++[])∧Acc st.n 1 A kr (zC ((WE Tn S i).take c))∧c≤2^Tn) (fun mm1 T st9 hI=>?_) _ _ _ ⟨0,.nils,[],rfl,(K.sub rfl),M.less (.refl _),(by rw[List.take_zero];exact .none),(Nat.zero_le _)⟩;obtain⟨c,kr,A,rfl,K,M,hA,hc⟩:=hI;refine Qb 1 K M fun _ K=>?_;refine Jt K rfl (fun h15=>?_) fun h15=>?_
 ·refine Qb 6 K M fun _ K=>?_;refine oQ K M (Sy (c:=c) M.fresh (hS.q M.qt) h6 wf hi Qc) rfl rfl fun _ _ K M=>?_;refine au 1 K M ?_;intro c22 _ _ K _ M;refine SI (k2:=0) (L:=[(c22,0,[iZ ((Y4 S i c))])]) (B:=[]) K M hA QD rfl rfl rfl rfl (by rw[Qp,List.length_take,Ni];have:=Nat.min_le_right c (2^Tn);omega) rfl fun ks23 A23 _ _ K hA23 M=>?_;refine Qb 3 K M fun _ K=>?_;exact⟨_,Qc,c+1,ks23,A23,rfl,(K.sub rfl),M.less (.cons _ (.refl _)),(by rw[Ml S i Qc,JW];exact hA23),Qc⟩
 refine QK ?_;show W _ _ _ _ _ _ _;refine Qb 2 K M ?_;refine⟨_,rfl,?_,M.qt⟩;rw[List.take_of_length_le (by rw[Ni];omega)]at hA;have h:=Mem.BS (L:=[]) (B:=[]) M hA
 simpa using h

theorem NN(hf:Qi st)(h1:0≤x)(h2:x≤1099511627776): ∃v st',Jf 95 [iZ x] st v st'∧v=.bool true∧Qt st st':=by
 refine J7 Tryz.func95 Tryz.ntmps95 fun T K=>?_;have M:=Mem.start hf;refine Qb 3 K M fun _ K=>?_;refine Ug K rfl (fun _ e5 K=>?_) fun _ e5 K=>?_
 ·exfalso;omega
 refine Qb 4 K M ?_;exact⟨congrArg AV.bool (decide_eq_true h2),M.qt⟩

theorem TM(hf:Qi st)(h6:Tn≤6): ∃v st',Jf 70 [iN Tn] st v st'∧ ∃sp F,v=.ptr sp 0 0∧Zm st' F sp Tn []∧ZP st st' F∧Qt st st':=by
 have B:=Qk.start hf;refine J7 Tryz.func70 Tryz.ntmps70 fun T K=>?_;have M:=B.mem;refine Qb 3 K M fun _ K=>?_;refine Ug K rfl (fun _ e5 K=>?_) fun _ e5 K=>?_
 ·refine Qb 3 K M fun _ K=>?_;refine Jt K rfl (fun h8=>?_) fun h8=>?_
  ·exfalso;omega
  refine Qb 1 K M fun _ K=>?_;replace B:=B.step M;refine W4 ET K B rfl fun c10 _ _ K B=>?_;have M:=B.mem;refine au 3 K M ?_;intro c12 _ _ K _ M;refine Qb 0 K M ?_;obtain⟨F,B'⟩:=Qk.Sm (M:=[]) (Os:=[]) (A:=[]) (S:=[]) (B.step M) .none;exact⟨_,F,rfl,B'.Kx (k:=0) rfl,B'.uA (k:=0) rfl,B'.qt⟩
 exfalso;omega

theorem zf(hf:Qi st)(hS:Zm st F sp Tn S)(hl:S.length<1000000000)(nd:Bn): ∃v st',Jf 150 [.ptr sp 0 0,(ET nd)] st v st'∧ ∃i S',v=iN i∧CD S nd i S'∧Vb st st' F sp Tn S':=by
 have B0:=Qk.UK (o:=XG F sp Tn S) hf hS.at_ hS.hi;obtain⟨ks,cm,A,B,hA⟩:=B0.fC;have hbl:YD ks=some S.length:=hA.len.trans (congrArg some (List.length_map ..));refine J7 Tryz.func150 Tryz.ntmps150 fun T K=>?_;have M:=B.mem;replace M:=Mem.cast (M':=((sp,0,[iN Tn,ks,.mp cm])::(A++[]))) M Q4;replace B:=B.cast (show _=((sp,0,[iN Tn,ks,.mp cm])::(A++[])) by simp);replace M:=B.mem;refine Qb 6 K M fun _ K=>?_;refine p1 K (WI uS ((B.step M).at_ (k:=0) rfl) rfl rfl) fun _ K=>?_;refine Qb 7 K M fun _ K=>?_;refine Uq K rfl (fun h17=>?_) fun h17=>?_
 ·have hb17:=h17
  replace h17:((Yp (VE 0 S) nd).isSome)=false:=by simpa using h17
  refine Jy ?_
  have hnone:Yp (VE 0 S) nd=none:=by cases hq:Yp (VE 0 S) nd with|none=>rfl|some x=>rw[hq]at h17;cases h17
  refine Qb 4 K M fun _ K=>?_;refine p1 K (Q5 X7 rfl rfl hbl) fun _ K=>?_;refine Qb 7 K M fun _ K=>?_;refine Xo K M Wm EV rfl ((JB rfl (P6 nd) rfl).trans rfl) (Qa (P6 nd) Qz) rfl rfl fun c29 _ _ K M=>?_;refine YL (k2:=0) (L:=[(c29,0,[(ET nd)]),(sp,0,[iN Tn,ks,.mp cm])]) (B:=[]) K M hA Wm rfl rfl rfl (by rw[List.length_map];omega) rfl fun ks30 A30 _ _ K hA30 hN30 M=>?_;simp only[XB]at M;refine Qb 2 K M fun _ K=>?_;refine Jk (k:=1) K M rfl rfl rfl FK (hA30.cell) rfl fun _ M=>?_;refine Qb 6 K M fun _ K=>?_;replace B:=B.step M;refine H8 (j:=0) (a:=nd) K B rfl uS rfl rfl rfl rfl hnone fun _ B=>?_;have M:=B.mem;refine Qb 2 K M ?_;refine⟨S.length,S++[nd],rfl,.app (vd hnone),?_⟩;have hA':=hA30;rw[BW]at hA'
  have e:VE 0 S++[(nd,iZ (S.length:Nat))]=VE 0 (S++[nd]):=by rw[GZ,Nat.zero_add]
  obtain⟨F',B'⟩:=Qk.Sm (M:=[]) (Os:=[]) (A:=A30) (S:=S++[nd]) (by rw[←e];exact(B.step M).less (.cons _ (.refl _))) hA';exact B'.Nv
 have hb17:=h17
 replace h17:((Yp (VE 0 S) nd).isSome)=true:=by simpa using h17
 refine Qb 2 K M ?_
 obtain⟨v0,hv0⟩: ∃x,Yp (VE 0 S) nd=some x:=by cases hq:Yp (VE 0 S) nd with|none=>rw[hq]at h17;cases h17|some x=>exact⟨x,rfl⟩
 obtain⟨i,hi,rfl⟩:=vc hv0;refine⟨i,S,by rw[hv0];rfl,.inl ⟨hi,rfl⟩,?_⟩;obtain⟨F',B'⟩:=Qk.Sm (M:=[]) (Os:=[]) (A:=A) (S:=S) (by simpa using B.step M) hA;exact B'.Nv

theorem PB(hf:Qi st)(hS:Zm st F sp Tn S)(wf:Xn Tn S)(hl:S.length<1000000000)(h1:0≤x)(h2:x≤1099511627776): ∃v st',Jf 125 [.ptr sp 0 0,iZ x] st v st'∧ ∃i S',v=iN i∧Vb st st' F sp Tn S'∧Wh Tn S 1 S' i∧lvl Tn S' i=Tn∧ ∀c,Y4 S' i c=x:=by
 have B:=Qk.UK (o:=XG F sp Tn S) hf hS.at_ hS.hi;refine J7 Tryz.func125 Tryz.ntmps125 fun T K=>?_;have M:=B.mem;refine Qb 2 K M fun _ K=>?_;refine p1 K (Yg ZU rfl rfl) fun _ K=>?_;refine Qb 2 K M fun _ K=>?_;obtain⟨v9,st9,ev9,rfl,q9⟩:=NN M.fresh h1 h2;refine pg K rfl rfl (Qf rfl ev9) fun _ K=>?_;replace M:=M.quiet q9;refine Qb 6 K M fun _ K=>?_;refine p1 K (D5 rfl (BT _)) fun _ K=>?_;replace B:=B.step M;obtain⟨v16,st16,ev16,i16,S16,rfl,hput,hout⟩:=zf M.fresh (B.Kx (k:=0) rfl) Qc (.leaf x);refine p1 K (Qf rfl ev16) fun _ K=>?_;obtain⟨F',B⟩:=B.Wf hout;have M:=B.mem;refine Qb 1 K M ?_;obtain⟨h3,h4,h5⟩:=ve hput wf ⟨h1,h2⟩;exact⟨_,_,rfl,(B.step M).Nv,h3,h4,h5⟩

theorem zd(hf:Qi st)(hS:Zm st F sp Tn S)(wf:Xn Tn S)(hlen:S.length<1000000000){l h:Nat}(ht:t<Tn)(hl:l<S.length)(hh:h<S.length)(h1:t<lvl Tn S l)(h2:t<lvl Tn S h): ∃v st',Jf 126 [.ptr sp 0 0,iN t,iN l,iN h] st v st'∧ ∃i S',v=iN i∧Vb st st' F sp Tn S'∧Wh Tn S 1 S' i∧t≤lvl Tn S' i∧ ∀c,Y4 S' i c=if c.testBit t then Y4 S h c else Y4 S l c:=by
 have B:=Qk.UK (o:=XG F sp Tn S) hf hS.at_ hS.hi;refine J7 Tryz.func126 Tryz.ntmps126 fun T K=>?_;have M:=B.mem;refine Qb 3 K M fun _ K=>?_;refine Ug K rfl (fun _ e12 K=>?_) fun _ e12 K=>?_
 ·refine Qb 2 K M fun _ K=>?_;replace B:=B.step M;obtain⟨v15,st15,ev15,rfl,q15⟩:=VL M.fresh (B.Kx (k:=0) rfl);refine pg K rfl rfl (Qf rfl ev15) fun _ K=>?_;replace B:=B.quiet q15;have M:=B.mem;refine Qb 2 K M fun _ K=>?_;refine Ug K rfl (fun _ e18 K=>?_) fun _ e18 K=>?_
  ·refine Qb 3 K M fun _ K=>?_;replace B:=B.step M;obtain⟨v22,st22,ev22,rfl,q22⟩:=Bi M.fresh (B.Kx (k:=0) rfl) hl t ht;refine pg K rfl rfl (Qf rfl ev22) fun _ K=>?_;replace B:=B.quiet q22;have M:=B.mem;refine Qb 2 K M fun _ K=>?_;refine oB K (Qy rfl) rfl fun b25 _ e25 K=>?_;cases b25
   ·replace e25:(t<lvl Tn S l):=by simpa using e25
    refine Qb 3 K M fun _ K=>?_;replace B:=B.step M;obtain⟨v29,st29,ev29,rfl,q29⟩:=Bi M.fresh (B.Kx (k:=0) rfl) hh t ht;refine pg K rfl rfl (Qf rfl ev29) fun _ K=>?_;replace B:=B.quiet q29;have M:=B.mem;refine Qb 3 K M fun _ K=>?_;refine aS K rfl (fun h9=>?_) fun h9=>?_
    ·exfalso;omega
    refine Qb 4 K M fun _ K=>?_;refine Jt K rfl (fun h32=>?_) fun h32=>?_
    ·refine Qb 2 K M ?_;obtain⟨h3,h4,h5⟩:=wa (.inl ⟨by omega,rfl,rfl⟩) wf ht hl hh h1 h2;exact⟨_,_,rfl,(B.step M).Nv,h3,h4,h5⟩
    refine Qb 5 K M fun _ K=>?_;refine p1 K (D5 rfl (BU _)) fun _ K=>?_;replace B:=B.step M;obtain⟨v43,st43,ev43,i43,S43,rfl,hput,hout⟩:=zf M.fresh (B.Kx (k:=0) rfl) Qc (.fork t l h);refine p1 K (Qf rfl ev43) fun _ K=>?_;obtain⟨F',B⟩:=B.Wf hout;have M:=B.mem;refine Qb 1 K M ?_;obtain⟨h3,h4,h5⟩:=wa (.inr ⟨by omega,hput⟩) wf ht hl hh h1 h2;exact⟨_,_,rfl,(B.step M).Nv,h3,h4,h5⟩
   replace e25: ¬(t<lvl Tn S l):=by simpa using e25
   exfalso;omega
  exfalso;omega
 exfalso;omega

theorem MX(hf:Qi st)(hl:Jg st.h.get [] 1 (zC l) kl)(hb:(l.length:Int)≤9223372036854775807){p:Int→Bool}(hC: ∀(x:Int),x∈l→ ∀(st1:St),Qt st st1→ ∃v st',Jf fo (fa++([iZ x]++fc)) st1 v st'∧v=.bool (p x)∧Qt st1 st'): ∃v st',Jf 68 [kl,(AV.fn fo fa fc)] st v st'∧v=iZ (IX p l 0)∧Qt st st':=by
 refine J7 Tryz.func68 Tryz.ntmps68 fun T K=>?_;have M:=Mem.start hf;refine Qb 2 K M fun _ K=>?_;refine p1 K (Q5 Je rfl rfl (hl.len.trans (congrArg some (Qp _)))) fun _ K=>?_;refine Qb 1 K M fun _ K=>?_;refine QX (fun mm1 T st9=> ∃(i:Nat),mm1=l.length-i∧QS [(0,kl),(1,(AV.fn fo fa fc)),(7,iZ (l.length:Nat)),(8,iN i)] T∧Mem st.h.get st.n [] st9 []∧i≤l.length∧IX p l 0=IX p (l.drop i) i) (fun mm1 T st9 hI=>?_) _ _ _ ⟨0,rfl,(K.sub rfl),M.less (.refl _),(Nat.zero_le _),rfl⟩;obtain⟨i,rfl,K,M,hi,hx⟩:=hI;refine Qb 1 K M fun _ K=>?_;refine Jt K rfl (fun h9=>?_) fun h9=>?_
 ·refine Qb 5 K M fun _ K=>?_;obtain⟨y14,hi14⟩:=Uy l i Qc;refine oI (Jg.mem M hl Q4) (Jm hi14) K Qo Qn rfl rfl rfl fun _ _ _ _ K=>?_;obtain⟨v16,st16,ev16,rfl,q16⟩:=hC y14 (List.mem_of_getElem? hi14) _ M.qt;refine p1 K (ZZ rfl rfl ev16) fun _ K=>?_;replace M:=M.quiet q16;refine Qb 0 K M fun _ K=>?_;refine Uq K rfl (fun h16=>?_) fun h16=>?_
  ·have hb16:=h16;refine Qb 2 K M ?_;exact⟨by rw[hx,Ff hi14,if_pos h16],M.qt⟩
  have hb16:=h16;refine Qb 2 K M fun _ K=>?_;exact⟨_,Qc,i+1,rfl,(K.sub rfl),M.less (.refl _),Qc,(by rw[hx,Ff hi14,if_neg (by rw[h16];decide)])⟩
 refine QK ?_;show W _ _ _ _ _ _ _;refine Qb 1 K M ?_;exact⟨by rw[hx,DX Qc],M.qt⟩

theorem Ix(hf:Qi st)(hl:Jg st.h.get [] 1 (zC l) kl)(hb:(l.length:Int)≤9223372036854775807){p:Int→Bool}(hC: ∀(x:Int),x∈l→ ∀(st1:St),Qt st st1→ ∃v st',Jf fo (fa++([iZ x]++fc)) st1 v st'∧v=.bool (p x)∧Qt st1 st'): ∃v st',Jf 42 [kl,(AV.fn fo fa fc)] st v st'∧v=.bool (l.any p)∧Qt st st':=by
 refine J7 Tryz.func42 Tryz.ntmps42 fun T K=>?_;have M:=Mem.start hf;refine Qb 3 K M fun _ K=>?_;refine oQ K M (MX M.fresh (Jg.mem M hl Q4) hb (fun x hx st1 q=>hC x hx st1 (M.qt.trans q))) rfl rfl fun _ _ K M=>?_;refine Qb 2 K M ?_;exact⟨by rw[←DY p l 0],M.qt⟩

theorem Iw(hf:Qi st)(hl:Jg st.h.get [] 1 (zC l) kl)(hb:(l.length:Int)≤9223372036854775807)(hC: ∀(x:Int),x∈l→ ∀(st1:St),Qt st st1→ ∃v st',Jf fo (fa++([.int .i64 x]++fc)) st1 v st'∧v=.bool false∧Qt st1 st'): ∃v st',Jf 42 [kl,.fn fo fa fc] st v st'∧v=.bool false∧Qt st st':=by
 obtain⟨v,st',h1,h2,h3⟩:=Ix (p:=fun _=>false) hf hl hb hC;exact⟨v,st',h1,by rw[h2];simp,h3⟩

theorem aF(hf:Qi st)(h1:0≤x)(h2:x≤1099511627776): ∃v st',Jf 94 [iZ x] st v st'∧v=.bool false∧Qt st st':=by
 refine J7 Tryz.func94 Tryz.ntmps94 fun T K=>?_;have M:=Mem.start hf;refine Qb 2 K M fun _ K=>?_;refine oQ K M (NN M.fresh h1 h2) rfl rfl fun _ _ K M=>?_;refine Qb 2 K M ?_;exact⟨rfl,M.qt⟩

theorem yV(hf:Qi st)(hS:Zm st F sp Tn S)(h6:Tn≤6)(wf:Xn Tn S)(ht:t≤Tn)(ha:a<2^t)(hlen0:S.length+(2^(Tn-t+1)-1)≤1000000000)(hR:Jg st.h.get [] 1 (zC row) kr)(hoff: ∀c m o n y,kr=.sl c m o n y→ ¬F c)(hrl:row.length=2^Tn)(hrv: ∀x∈row,0≤x∧x≤1099511627776)(ih:t<Tn→ ∀(st:St) (F:Fp) (S:U7) (a:Nat),Qi st→Zm st F sp Tn S→Xn Tn S→S.length+(2^(Tn-(t+1)+1)-1)≤1000000000→a<2^(t+1)→Jg st.h.get [] 1 (zC row) kr→(∀c m o n y,kr=.sl c m o n y→ ¬F c)→ ∃v st',Jf 96 [.ptr sp 0 0,kr,iZ (t+1:Nat),iN a] st v st'∧ ∃i S',v=iN i∧Vb st st' F sp Tn S'∧Wh Tn S (2^(Tn-(t+1)+1)-1) S' i∧t+1≤lvl Tn S' i∧ ∀c,c<2^Tn→row[MU (t+1) a c]? =some (Y4 S' i c)): ∃v st',Jf 96 [.ptr sp 0 0,kr,iN t,iN a] st v st'∧ ∃i S',v=iN i∧Vb st st' F sp Tn S'∧Wh Tn S (2^(Tn-t+1)-1) S' i∧t≤lvl Tn S' i∧ ∀c,c<2^Tn→row[MU t a c]? =some (Y4 S' i c):=by
 have B:=Qk.UK (o:=XG F sp Tn S) hf hS.at_ hS.hi;obtain⟨ks,cm,hrow,hrd,hlen,hbn⟩:=hS.at_.rd;have hpt:=JG (show t≤6 by omega)
 have hp2:2^(t+1)=2 *2^t:=by rw[Nat.pow_succ,Nat.mul_comm]
 have hq0:1≤2^(Tn-t):=Nat.one_le_two_pow
 have hq1:2^(Tn-t+1)=2 *2^(Tn-t):=by rw[Nat.pow_succ,Nat.mul_comm]
 refine J7 Tryz.func96 Tryz.ntmps96 fun T K=>?_;have M:=B.mem;refine Qb 5 K M fun _ K=>?_;refine p1 K (Qg rfl (Qw (M.JF Q4 hrow.Jb) (Qd Qn rfl))) fun _ K=>?_;refine Qb 1 K M fun _ K=>?_;refine Jt K rfl (fun h15=>?_) fun h15=>?_
 ·refine Jy ?_
  have htt:t=Tn:=by omega
  have harl:a<row.length:=by rw[hrl,←htt];exact ha
  refine Qb 3 K M fun _ K=>?_;obtain⟨y19,hi19⟩:=Uy row a Qc;refine oI ((B.step M).rd hf hR hoff) (Jm hi19) K Qo Qn rfl rfl rfl fun _ _ _ _ K=>?_;replace B:=B.step M;obtain⟨hv1,hv2⟩:=hrv _ (List.mem_of_getElem? hi19);obtain⟨v21,st21,ev21,i1,S1,rfl,hout1,m1,lv1,hev1⟩:=PB B.fresh (B.Kx (k:=0) rfl) wf Qc hv1 hv2;refine p1 K (Qf rfl ev21) fun _ K=>?_;obtain⟨F1,B⟩:=B.Wf hout1;have M:=B.mem;refine Qb 1 K M ?_
  have e0: ∀c,c<2^Tn→MU t a c=a:=fun c hc=>by
   unfold MU;rw[htt,Nat.div_eq_of_lt hc,Nat.zero_mul,Nat.add_zero]
  exact⟨_,_,rfl,(B.step M).Nv,m1.more Qc,by omega,fun c hc=>by rw[e0 c hc,hi19,hev1]⟩
 refine Qb 0 K M fun _ K=>?_
 have ht1:t<Tn:=by omega
 have hq2:Tn-(t+1)+1=Tn-t:=by omega
 have hq3:2^(Tn-(t+1)+1)=2^(Tn-t):=by rw[hq2]
 refine Qb 5 K M fun _ K=>?_;replace B:=B.step M;obtain⟨v27,st27,ev27,i1,S1,rfl,hout1,m1,lv1,hev1⟩:=ih ht1 _ _ _ a B.fresh (B.Kx (k:=0) rfl) wf (by skip;omega) Qc (B.rd hf hR hoff) (B.off (k:=0) rfl hf hR hoff);refine p1 K (Qf rfl ev27) fun _ K=>?_;obtain⟨F1,B⟩:=B.Wf hout1;have M:=B.mem;refine Qb 1 K M fun _ K=>?_;have hor:a|||2^t=a+2^t:=eh ha;refine Qb 9 K M fun _ K=>?_;refine p1 K (US (n:=t) rfl rfl Qc) fun _ K=>p1 K (Nx (a:=a) (b:=2^t) hor rfl rfl Qc Qc) fun _ K=>?_;replace B:=B.step M;obtain⟨v39,st39,ev39,i2,S2,rfl,hout2,m2,lv2,hev2⟩:=ih ht1 _ _ _ (a+2^t) B.fresh (B.Kx (k:=0) rfl) m1.wf (by have:=m1.len;omega) Qc (B.rd hf hR hoff) (B.off (k:=0) rfl hf hR hoff);refine p1 K (Qf rfl ev39) fun _ K=>?_;obtain⟨F2,B⟩:=B.Wf hout2;have M:=B.mem;replace B:=B.step M;have hl1:=m1.len;have hl2:=m2.len;have hq2:=Vq (T:=Tn) m2.pre m1.lt;have hq3:=m2.pre.length_le;have hlt1:=m1.lt;obtain⟨v40,st40,ev40,i3,S3,rfl,hout3,m3,lv3,hev3⟩:=zd B.fresh (B.Kx (k:=0) rfl) m2.wf Qc ht1 (show i1<_ by omega) m2.lt Qc Qc;refine p1 K (Qf rfl ev40) fun _ K=>?_;obtain⟨F3,B⟩:=B.Wf hout3;have M:=B.mem;refine Qb 1 K M ?_;refine⟨_,_,rfl,(B.step M).Nv,⟨m3.wf,m1.pre.trans (m2.pre.trans m3.pre),m3.lt,by have:=m3.len;omega⟩,lv3,fun c hc=>?_⟩;rw[hev3]
 cases hb:c.testBit t with
 |true=>rw[if_pos rfl,←uW hb];exact hev2 c hc
 |false=>rw[if_neg Q8,Zs m1.wf m2.pre m1.lt,←vh hb];exact hev1 c hc

theorem vD(h6:Tn≤6)(hrl:row.length=2^Tn)(hrv: ∀x∈row,0≤x∧x≤1099511627776): ∀k t,t+k=Tn→ ∀(st:St) (F:Fp) (S:U7) (a:Nat),Qi st→Zm st F sp Tn S→Xn Tn S→S.length+(2^(Tn-t+1)-1)≤1000000000→a<2^t→Jg st.h.get [] 1 (zC row) kr→(∀c m o n y,kr=.sl c m o n y→ ¬F c)→ ∃v st',Jf 96 [.ptr sp 0 0,kr,.int .i64 (t:Nat),.int .i64 (a:Nat)] st v st'∧ ∃i S',v=.int .i64 (i:Nat)∧Vb st st' F sp Tn S'∧Wh Tn S (2^(Tn-t+1)-1) S' i∧t≤lvl Tn S' i∧ ∀c,c<2^Tn→row[MU t a c]? =some (Y4 S' i c):=by
 intro k
 induction k with
 |zero=>intro t ht st F S a hf hS wf hl ha hR hoff;exact yV hf hS h6 wf Qc ha hl hR hoff hrl hrv fun h=>by omega
 |succ k ih=>intro t ht st F S a hf hS wf hl ha hR hoff;exact yV hf hS h6 wf Qc ha hl hR hoff hrl hrv fun h=>ih (t+1) Qc

theorem zb(hf:Qi st)(hS:Zm st F sp Tn S)(h6:Tn≤6)(wf:Xn Tn S)(hlen0:S.length+(2^(Tn-0+1)-1)≤1000000000)(hR:Jg st.h.get [] 1 (zC row) kr)(hoff: ∀c m o n y,kr=.sl c m o n y→ ¬F c)(hrl:row.length=2^Tn)(hrv: ∀x∈row,0≤x∧x≤1099511627776): ∃v st',Jf 71 [.ptr sp 0 0,kr] st v st'∧ ∃i S',v=iN i∧Vb st st' F sp Tn S'∧Wh Tn S (2^(Tn+1)-1) S' i∧ ∀c,c<2^Tn→row[c]? =some (Y4 S' i c):=by
 have B:=Qk.UK (o:=XG F sp Tn S) hf hS.at_ hS.hi;obtain⟨ks,cm,hrow,hrd,hlen,hbn⟩:=hS.at_.rd;have hpt:=JG h6
 have hrb:(row.length:Int)≤9223372036854775807:=by omega
 refine J7 Tryz.func71 Tryz.ntmps71 fun T K=>?_;have M:=B.mem;refine Qb 2 K M fun _ K=>?_;refine p1 K (Yg ZU rfl rfl) fun _ K=>?_;refine Qb 2 K M fun _ K=>?_;refine pg K rfl rfl (Q5 Je rfl rfl (hR.len.trans (congrArg some (Qp _)))) fun _ K=>?_;refine Qb 3 K M fun _ K=>?_;refine pg K rfl rfl (Qg rfl (Qw (M.JF Q4 hrow.Jb) (Qd Qn rfl))) fun _ K=>pg K rfl rfl (US (n:=Tn) rfl rfl Qc) fun _ K=>?_;refine Qb 2 K M fun _ K=>?_;refine oB K (Qy rfl) rfl fun b17 _ e17 K=>?_;cases b17
 ·replace e17:(((row.length:Nat):Int)=((2^Tn:Nat):Int)):=by simpa using e17
  refine Qb 1 K M fun _ K=>?_;replace B:=B.step M;obtain⟨v19,st19,ev19,rfl,q19⟩:=Iw (fo:=94) (fa:=[]) (fc:=[]) B.fresh (B.rd hf hR hoff) hrb (fun x hx st1 q=>aF q.fresh (hrv x hx).1 (hrv x hx).2);refine pg K rfl rfl (Qf rfl ev19) fun _ K=>?_;replace B:=B.quiet q19;have M:=B.mem;refine Qb 4 K M fun _ K=>?_;replace B:=B.step M;have hlo:=hlen0;obtain⟨v23,st23,ev23,i1,S1,rfl,hout1,m1,lv1,hev1⟩:=vD h6 hrl hrv Tn 0 (Nat.zero_add _) _ _ _ 0 B.fresh (B.Kx (k:=0) rfl) wf hlen0 Q8 (B.rd hf hR hoff) (B.off (k:=0) rfl hf hR hoff);refine p1 K (Qf rfl ev23) fun _ K=>?_;obtain⟨F1,B⟩:=B.Wf hout1;have M:=B.mem;refine Qb 1 K M ?_;refine⟨_,_,rfl,(B.step M).Nv,m1,fun c hc=>?_⟩;have:=hev1 c hc;rw[show MU 0 0 c=c by simp[MU]]at this;exact this
 replace e17: ¬(((row.length:Nat):Int)=((2^Tn:Nat):Int)):=by simpa using e17
 exfalso;omega
end
section
open Go

theorem H9:tk Tryz.prog 52=.one:=by kernel_rfl
theorem HD:YM Tryz.prog 52=some 1:=by kernel_rfl
theorem H5:zeroOf Tryz.prog 52=some [.nilf]:=by kernel_rfl
end
section
open Go

theorem YJ:tk Tryz.prog 93=.one:=by kernel_rfl
theorem J5:tk Tryz.prog 179=.one:=by kernel_rfl
theorem Xx:tk Tryz.prog 200=.one:=by kernel_rfl
end
section
open Go Go.RowKit
variable {a:Au}

def bC(l:List Bool):List (List AV):=l.map fun b=>[AV.bool b]
theorem Up(l:List Bool):(bC l).length=l.length:=by simp[bC]
theorem Ww{l:List Bool}{i:Nat}{b:Bool}(h:l[i]? =some b):(bC l)[i]? =some [AV.bool b]:=by rw[bC,List.getElem?_map,h];rfl
theorem XZ(a b:List Bool):bC (a++b)=bC a++bC b:=by simp[bC]
theorem zg(l:List Bool): ∀cs∈bC l,cs.length=1:=by
 intro cs h;obtain⟨s,_,rfl⟩:=List.mem_map.1 h;rfl
def zF(F:Fp)(v:AV):Prop:= ∀c m o n y,v=.sl c m o n y→F c
theorem Acc.vk{n0 z:Nat}{A:QM}{kr:AV}{ls:List (List AV)}(hA:Acc n0 z A kr ls):zF (Xs A).F kr:=fun c m o n y e=>by
 cases hA with
 |none=>cases e
 |own h1 h2 h3=>injection e with e1 e2;subst e1;exact⟨_,_,List.mem_cons_self ..⟩
theorem YS.vk{A:QM}{kr:AV}{vs:List AV}(hA:YS A kr vs):zF (Xs A).F kr:=fun c m o n y e=>by
 cases hA with
 |none=>cases e
 |own h3=>injection e with e1 e2;subst e1;exact⟨_,_,List.mem_cons_self ..⟩
structure Zl(h:Hp)(F:Fp)(vs:List AV)(LL:List (List Int)):Prop where
 ln:vs.length=LL.length
 at_: ∀(i:Nat) (s:List Int),LL[i]? =some s→ ∃v,vs[i]? =some v∧Jg h [] 1 (zC s) v∧X5 s∧zF F v
theorem Zl.frame{h h':Hp}{F:Fp}{vs:List AV}{LL:List (List Int)}(e: ∀c,F c→h' c=h c)(H:Zl h F vs LL):Zl h' F vs LL:=
 ⟨H.ln,fun i s hi=>by
  obtain⟨v,h1,h2,h3,h4⟩:=H.at_ i s hi
  exact⟨v,h1,h2.frame fun c m o n y e'=>e c (h4 c m o n y e'),h3,h4⟩⟩
def EX(F:Fp)(vs:List AV)(LL:List (List Int)):Ob:=⟨F,fun h=>Zl h F vs LL,fun _ _ e H=>H.frame e⟩
structure X3(h:Hp)(F:Fp)(kn:AV)(vs:List AV)(LL:List (List Int)):Prop where
 rd:Jg h [] 1 (vs.map fun v=>[v]) kn
 vs:Zl h F vs LL
 out:zF F kn
theorem X3.frame{h h':Hp}{F:Fp}{kn:AV}{vs:List AV}{LL:List (List Int)}(e: ∀c,F c→h' c=h c)(H:X3 h F kn vs LL):X3 h' F kn vs LL:=
 ⟨H.rd.frame fun c m o n y e'=>e c (H.out c m o n y e'),H.vs.frame e,H.out⟩
def Ce(F:Fp)(kn:AV)(vs:List AV)(LL:List (List Int)):Ob:=⟨F,fun h=>X3 h F kn vs LL,fun _ _ e H=>H.frame e⟩
theorem X3.r{h:Hp}{F:Fp}{kn:AV}{vs:List AV}{LL:List (List Int)}(H:X3 h F kn vs LL):OC h LL kn (vs.map fun v=>[v]):=by
 refine⟨H.rd,by rw[List.length_map];exact H.vs.ln,fun i s hi=>?_⟩;obtain⟨v,k1,k2,k3,_⟩:=H.vs.at_ i s hi;exact⟨[v],by rw[List.getElem?_map,k1];rfl,v,rfl,k2,k3⟩
theorem X3.len{h:Hp}{F:Fp}{kn:AV}{vs:List AV}{LL:List (List Int)}(H:X3 h F kn vs LL):YD kn=some LL.length:=H.r.len
section
variable {st0 st:St} {X0:Fp} {L A B M:QM} {Os:List Ob} {F:Fp} {vs:List AV} {LL:List (List Int)} {kr kn:AV} {row:List Int}
theorem Qk.iJ{A B:QM}(H:Qk st0 X0 st (L++(A++B)) Os):Qk st0 X0 st (A++(L++B)) Os:=H.perm (by rw[←List.append_assoc,←List.append_assoc];exact List.perm_append_comm.append_right B)
theorem Qk.V9(B:Qk st0 X0 st M Os):Qk st0 X0 st M (EX ZQ [] []::Os):=
 B.new ⟨B.fresh,Nat.le_refl _,fun _ _=>rfl⟩ ⟨rfl,fun i s hi=>by simp at hi⟩ fun c hc=>hc.elim
theorem Qk.ZD(H:Qk st0 X0 st (L++(A++B)) (EX F vs LL::Os)){n0:Nat}(hA:Acc n0 1 A kr (zC row))(hz:X5 row): ∃F',Qk st0 X0 st (L++B) (EX F' (vs++[kr]) (LL++[row])::Os):=by
 have hr:Jg st.h.get [] 1 (zC row) kr:=Mem.Ys H.mem hA;have hin:=hA.vk;have B1:=H.iJ.freeze (o:=⟨(Xs A).F,fun h=>Jg h [] 1 (zC row) kr,fun h h' e r=>r.frame fun c m o n y e'=>e c (hin c m o n y e')⟩) hr (fun c hc=>hc);refine⟨fun c=>(Xs A).F c∨F c,B1.join (fun h1 h2=>⟨by rw[List.length_append,List.length_append,h2.ln];rfl,fun i s hi=>?_⟩) fun c hc=>hc⟩
 by_cases hl:i<LL.length
 ·rw[List.getElem?_append_left hl]at hi;obtain⟨v,k1,k2,k3,k4⟩:=h2.at_ i s hi;exact⟨v,by rw[List.getElem?_append_left (by rw[h2.ln];exact hl)];exact k1,k2,k3,fun c m o n y e=>.inr (k4 c m o n y e)⟩
 ·have hlt:=(List.getElem?_eq_some_iff.1 hi).1;rw[List.length_append,List.length_singleton]at hlt
  have hl:i=LL.length:=by omega
  subst hl;rw[List.getElem?_append_right (Nat.le_refl _),Nat.sub_self]at hi
  injection hi with hi
  subst hi;exact⟨kr,by rw[List.getElem?_append_right (by rw[h2.ln];exact Nat.le_refl _),h2.ln,Nat.sub_self];rfl,h1,hz,fun c m o n y e=>.inl (hin c m o n y e)⟩
theorem Qk.B6(H:Qk st0 X0 st (L++(A++B)) (EX F vs LL::Os))(hA:YS A kn vs): ∃F',Qk st0 X0 st (L++B) (Ce F' kn vs LL::Os):=by
 have hr:Jg st.h.get [] 1 (vs.map fun v=>[v]) kn:=hA.rd fun c m l hm=>H.row c m l (by simp[hm]);have hin:=hA.vk;have B1:=H.iJ.freeze (o:=⟨(Xs A).F,fun h=>Jg h [] 1 (vs.map fun v=>[v]) kn,fun h h' e r=>r.frame fun c m o n y e'=>e c (hin c m o n y e')⟩) hr (fun c hc=>hc);refine⟨fun c=>(Xs A).F c∨F c,B1.join (fun h1 h2=>⟨h1,⟨h2.ln,fun i s hi=>?_⟩,fun c m o n y e=>.inl (hin c m o n y e)⟩) fun c hc=>hc⟩;obtain⟨v,k1,k2,k3,k4⟩:=h2.at_ i s hi;exact⟨v,k1,k2,k3,fun c m o n y e=>.inr (k4 c m o n y e)⟩
end
def PS(h:Hp)(F:Fp)(dp:Nat)(a:Au):Prop:=
 ∃(ka kr:AV) (sp:Nat) (F1:Fp) (S:U7) (roots:List Nat),Qx h dp 0 [ka,kr,.ptr sp 0 0]∧F dp∧Jg h [] 1 (bC a.acc) ka∧zF F ka∧Jg h [] 1 (zC (roots.map fun r=>((r:Nat):Int))) kr∧zF F kr∧AO h F1 sp a.tr S∧(∀c,F1 c→F c)∧Xn a.tr S∧Zp a∧roots.length=a.n∧
  ∀(s r:Nat),roots[s]? =some r→r<S.length∧a.nx[s]? =some (WE a.tr S r)
theorem PS.frame{h h':Hp}{F:Fp}{dp:Nat}{a:Au}(e: ∀c,F c→h' c=h c)(H:PS h F dp a):PS h' F dp a:=by
 obtain⟨ka,kr,sp,F1,S,roots,h1,h2,h3,h4,h5,h6,h7,h8,h9⟩:=H;exact⟨ka,kr,sp,F1,S,roots,h1.frame (e dp h2),h2,h3.frame fun c m o n y e'=>e c (h4 c m o n y e'),h4,h5.frame fun c m o n y e'=>e c (h6 c m o n y e'),h6,h7.frame fun c hc=>e c (h8 c hc),h8,h9⟩
def Iv(F:Fp)(dp:Nat)(a:Au):Ob:=⟨F,fun h=>PS h F dp a,fun _ _ e H=>H.frame e⟩
structure UX(st:St)(F:Fp)(dp:Nat)(a:Au):Prop where
 at_:PS st.h.get F dp a
 hi: ∀c,F c→c<st.n
theorem UX.q{st st':St}{F:Fp}{dp:Nat}{a:Au}(hD:UX st F dp a)(q:Qt st st'):UX st' F dp a:=⟨hD.at_.frame fun c hc=>q.J9 c (hD.hi c hc),fun c hc=>Nat.lt_of_lt_of_le (hD.hi c hc) q.le⟩
theorem UX.wf{st:St}{F:Fp}{dp:Nat}(hD:UX st F dp a):Zp a:=by
 obtain⟨_,_,_,_,_,_,_,_,_,_,_,_,_,_,_,h,_⟩:=hD.at_;exact h
theorem Qk.qS{st0 st:St}{X0 F:Fp}{M:QM}{Os:List Ob}{dp:Nat}(B:Qk st0 X0 st M Os){k:Nat}(hk:Os[k]? =some (Iv F dp a)):UX st F dp a:=⟨B.at_ hk,B.Y3 hk⟩
theorem Zp.F7(W:Zp a): ∀r∈a.nx,X5 r:=fun r hr z hz=>by
 obtain⟨_,h⟩:=W.row r hr;have:=h z hz;have:=W.most;omega
end
section
open Go Go.RowKit

def UZ(h:Hp)(F:Fp)(z:Nat)(ks:AV)(ls:List (List AV)):Prop:= ∃A,Acc 0 z A ks ls∧(∀c m l,(c,m,l)∈A→Qx h c m l∧F c)
def Wz(F:Fp)(z:Nat)(ks:AV)(ls:List (List AV)):Ob:=⟨F,fun h=>UZ h F z ks ls,fun h h' e H=>by
 obtain⟨A,h1,h2⟩:=H
 exact⟨A,h1,fun c m l hm=>⟨(h2 c m l hm).1.frame (e c (h2 c m l hm).2),(h2 c m l hm).2⟩⟩⟩
theorem qJ{n0 z:Nat}{A:QM}{ks:AV}{ls:List (List AV)}(hA:Acc n0 z A ks ls):(A.map Prod.fst).Nodup:=by cases hA<;>simp
section
variable {st0 st:St} {X0 F:Fp} {M A:QM} {Os:List Ob} {z:Nat} {ks:AV} {ls:List (List AV)}
theorem UZ.rd{h:Hp}(H:UZ h F z ks ls):Jg h [] z ls ks:=by
 obtain⟨A,h1,h2⟩:=H
 cases h1 with
 |none=>exact .nil _ _ _
 |own k1 k2 k3=>exact Jg.own (h2 _ _ _ (List.mem_cons_self ..)).1 k2 Q4 Qc
theorem UZ.len{h:Hp}(H:UZ h F z ks ls):YD ks=some ls.length:=by obtain⟨A,h1,_⟩:=H;exact h1.len
theorem UZ.cell{h:Hp}(H:UZ h F z ks ls):Qr ks=true:=by obtain⟨A,h1,_⟩:=H;exact h1.cell
theorem Qk.BO(B:Qk st0 X0 st M (Wz F z ks ls::Os)): ∃A,Acc 0 z A ks ls∧Qk st0 X0 st (A++M) Os:=by
 obtain⟨A,h1,h2⟩:=B.obj _ (List.mem_cons_self ..);have B1:=B.wF (R:=A) (o':=⟨ZQ,fun _=>True,fun _ _ _ h=>h⟩) h2 (qJ h1) trivial (fun c hc=>hc.elim) (fun c m l _ hc=>hc);exact⟨A,h1,B1.NJ (.cons _ (.refl _))⟩
theorem Qk.VK(B:Qk st0 X0 st (A++M) Os)(hA:Acc 0 z A ks ls): ∃F',Qk st0 X0 st M (Wz F' z ks ls::Os):=
 ⟨(Xs A).F,B.freeze (o:=Wz (Xs A).F z ks ls) ⟨A,hA,fun c m l hm=>⟨B.row c m l (by simp[hm]),m,l,hm⟩⟩ fun c hc=>hc⟩
end
end
section
open Go Go.RowKit
variable {l:Nat} {st:St}

def Yr(mp l:Nat)(o:Bool):Ob:=⟨fun c=>c=mp,fun h=>Qx h mp 0 [.int .i64 (l:Nat),.bool o],fun _ _ e H=>H.frame (e mp rfl)⟩
theorem Qk.HF(hf:Qi st){c m:Nat}{l:List AV}(h:Qx st.h.get c m l):Qk st (fun x=>x=c) st [(c,m,l)] []:=
 ⟨hf,Nat.le_refl _,fun c' m' l' h'=>(by injection List.mem_singleton.1 h' with e1 e2;injection e2 with e2 e3;subst e1 e2 e3;exact h),List.nodup_cons.2 ⟨by simp,List.nodup_nil⟩,fun c' m' l' h'=>(by injection List.mem_singleton.1 h' with e1 e2;exact .inr e1),fun o h=>(by cases h),fun o h=>(by cases h),.nil,fun o h=>(by cases h),fun _ _ _=>rfl⟩
def BZ(l:Nat)(o:Bool)(n:Nat):Bool:= !o&&decide (n≤l)
def UO(l:Nat)(o:Bool)(n:Nat):Nat:=if o then l else l-n
def Zu(l:Nat)(o:Bool)(n:Nat):Bool:=o||decide (l<n)
theorem Tp{n:Nat}(h:n≤l):BZ l false n=true:=by simp[BZ,h]
theorem GJ(l n:Nat):UO l false n=l-n:=rfl
theorem HZ{n:Nat}(h:n≤l):Zu l false n=false:=by simp[Zu];omega

theorem Tq(hf:Qi st)(n:Int): ∃v st',Jf 11 [iZ n] st v st'∧ ∃mp,v=.ptr mp 0 0∧st.n≤mp∧Qx st'.h.get mp 0 [iZ (n.toNat:Nat),.bool false]∧Qt st st':=by
 refine J7 Tryz.func11 Tryz.ntmps11 fun T K=>?_;have M:=Mem.start hf;refine Qb 2 K M fun _ K=>?_;refine p1 K (jV rfl rfl) fun _ K=>?_;refine au 3 K M ?_;intro c6 _ _ K _ M;refine Qb 0 K M ?_;refine⟨c6,rfl,(M.own c6 0 _ (List.mem_cons_self ..)).resolve_right Q4,?_,M.qt⟩;have hr9:=M.Ya (k:=0) rfl
 rwa [show max n 0=((n.toNat:Nat):Int) by omega]at hr9

theorem vb(hf:Qi st){mp:Nat}{o:Bool}(hr:Qx st.h.get mp 0 [iN l,.bool o]): ∃v st',Jf 88 [.ptr mp 0 0] st v st'∧v=.bool o∧Qt st st':=by
 refine J7 Tryz.func88 Tryz.ntmps88 fun T K=>?_;have M:=Mem.start hf;refine Qb 2 K M fun _ K=>?_;refine p1 K (Yg IC rfl rfl) fun _ K=>?_;refine Qb 4 K M fun _ K=>?_;refine pg K rfl rfl (Qg rfl (Qw (M.JF Q4 hr.Jb) (Qd J6 rfl))) fun _ K=>?_;refine Qb 2 K M ?_;exact⟨rfl,M.qt⟩

theorem GI(hf:Qi st){mp:Nat}{o:Bool}(hr:Qx st.h.get mp 0 [.int .i64 (l:Nat),.bool o])(hl:l≤9223372036854775807)(n:Nat)(hn:n≤9223372036854775807): ∃v st',Jf 62 [.ptr mp 0 0,.int .i64 (n:Nat)] st v st'∧v=.bool (BZ l o n)∧(Yr mp (UO l o n) (Zu l o n)).H st'.h.get∧UQ (fun c=>c=mp) st st':=by
 have B:=Qk.HF hf hr;refine Cm rfl Tryz.func62 rfl Tryz.ntmps62 rfl fun T hT=>?_;have K:QS [(0,_),(1,_)] T:=(.cons (hT 0) (.cons (hT 1) .nil));have M:=B.mem;refine Qb 3 K M fun _ K=>?_;refine Ug K rfl (fun _ e8 K=>?_) fun _ e8 K=>?_
 ·refine Qb 1 K M fun _ K=>?_;obtain⟨v10,st10,ev10,rfl,q10⟩:=vb M.fresh (M.Ya (k:=0) rfl);refine pg K rfl rfl (Qf rfl ev10) fun _ K=>?_;replace M:=M.quiet q10;refine Qb 2 K M fun _ K=>?_;refine Uq K rfl (fun h5=>?_) fun h5=>?_
  ·have hb5:=h5;refine Qb 1 K M ?_;refine⟨congrArg AV.bool ?_,?_,(B.step M).JM⟩
   ·clear M B hr K hT
    cases o<;>simp_all [BZ]<;>omega
   ·have hr9:=M.Ya (k:=0) rfl
    have e9:([.int .i64 (UO l o n:Nat),.bool (Zu l o n)]:List AV)=[.int .i64 (l:Nat),.bool o]:=by
     clear M B hr K hT hr9
     cases o<;>simp_all [UO,Zu]<;>omega
    show Qx _ mp 0 [.int .i64 (UO l o n:Nat),.bool (Zu l o n)];rw[e9];exact hr9
  have hb5:=h5;refine Qb 7 K M fun _ K=>?_;refine Jt K rfl (fun h12=>?_) fun h12=>?_
  ·refine au 9 K M ?_;intro _ _ K _ M;refine Qb 0 K M ?_;refine⟨congrArg AV.bool ?_,?_,(B.step M).JM⟩
   ·clear M B hr K hT
    cases o<;>simp_all [BZ]<;>omega
   ·have hr9:=M.Ya (k:=0) rfl
    have e9:([.int .i64 (UO l o n:Nat),.bool (Zu l o n)]:List AV)=[.int .i64 0,.bool true]:=by
     clear M B hr K hT hr9
     cases o<;>simp_all [UO,Zu]<;>omega
    show Qx _ mp 0 [.int .i64 (UO l o n:Nat),.bool (Zu l o n)];rw[e9];exact hr9
  refine au 10 K M ?_;intro _ _ K _ M;refine Qb 0 K M ?_;refine⟨congrArg AV.bool ?_,?_,(B.step M).JM⟩
  ·clear M B hr K hT
   cases o<;>simp_all [BZ]<;>omega
  ·have hr9:=M.Ya (k:=0) rfl
   have e9:([.int .i64 (UO l o n:Nat),.bool (Zu l o n)]:List AV)=[.int .i64 ((((l:Nat):Int)-((n:Nat):Int))),.bool o]:=by
    clear M B hr K hT hr9
    cases o<;>simp_all [UO,Zu]<;>omega
   show Qx _ mp 0 [.int .i64 (UO l o n:Nat),.bool (Zu l o n)];rw[e9];exact hr9
 refine Qb 6 K M ?_;refine⟨congrArg AV.bool ?_,?_,(B.step M).JM⟩
 ·clear M B hr K hT
  cases o<;>simp_all [BZ]<;>omega
 ·have hr9:=M.Ya (k:=0) rfl
  have e9:([.int .i64 (UO l o n:Nat),.bool (Zu l o n)]:List AV)=[.int .i64 (l:Nat),.bool o]:=by
   clear M B hr K hT hr9
   cases o<;>simp_all [UO,Zu]<;>omega
  show Qx _ mp 0 [.int .i64 (UO l o n:Nat),.bool (Zu l o n)];rw[e9];exact hr9
end
section
open Go Go.RowKit
variable {l mp:Nat} {st:St}

theorem Dt(hf:Qi st)(n:Int): ∃v st',Jf 46 [iZ n] st v st'∧ ∃mp,v=.ptr mp 0 0∧st.n≤mp∧Qx st'.h.get mp 0 [iZ (n.toNat:Nat),.bool false]∧Qt st st':=by
 refine J7 Tryz.func46 Tryz.ntmps46 fun T K=>?_;have M:=Mem.start hf;refine Qb 2 K M fun _ K=>?_;refine p1 K (jV rfl rfl) fun _ K=>?_;refine au 3 K M ?_;intro c6 _ _ K _ M;refine Qb 0 K M ?_;refine⟨c6,rfl,(M.own c6 0 _ (List.mem_cons_self ..)).resolve_right Q4,?_,M.qt⟩;have hr9:=M.Ya (k:=0) rfl
 rwa [show max 0 n=((n.toNat:Nat):Int) by omega]at hr9

theorem Nk(hf:Qi st){o:Bool}(hr:Qx st.h.get mp 0 [.int .i64 (l:Nat),.bool o])(hl:l≤9223372036854775807)(n:Nat)(hn:n≤9223372036854775807): ∃v st',Jf 72 [.ptr mp 0 0,.int .i64 (n:Nat)] st v st'∧v=.bool (BZ l o n)∧(Yr mp (UO l o n) (Zu l o n)).H st'.h.get∧UQ (fun c=>c=mp) st st':=by
 have B:=Qk.HF hf hr;refine Cm rfl Tryz.func72 rfl Tryz.ntmps72 rfl fun T hT=>?_;have K:QS [(0,_),(1,_)] T:=(.cons (hT 0) (.cons (hT 1) .nil));have M:=B.mem;refine Qb 3 K M fun _ K=>?_;refine Ug K rfl (fun _ e7 K=>?_) fun _ e7 K=>?_
 ·refine Qb 5 K M fun _ K=>?_;refine Uq K rfl (fun h12=>?_) fun h12=>?_
  ·have hb12:=h12;refine Qb 1 K M ?_;refine⟨congrArg AV.bool ?_,?_,(B.step M).JM⟩
   ·clear M B hr K hT
    cases o<;>simp_all [BZ]<;>omega
   ·have hr9:=M.Ya (k:=0) rfl
    have e9:([.int .i64 (UO l o n:Nat),.bool (Zu l o n)]:List AV)=[.int .i64 (l:Nat),.bool o]:=by
     clear M B hr K hT hr9
     cases o<;>simp_all [UO,Zu]<;>omega
    show Qx _ mp 0 [.int .i64 (UO l o n:Nat),.bool (Zu l o n)];rw[e9];exact hr9
  have hb12:=h12;refine Qb 6 K M fun _ K=>?_;refine Jt K rfl (fun h18=>?_) fun h18=>?_
  ·refine au 9 K M ?_;intro _ _ K _ M;refine Qb 0 K M ?_;refine⟨congrArg AV.bool ?_,?_,(B.step M).JM⟩
   ·clear M B hr K hT
    cases o<;>simp_all [BZ]<;>omega
   ·have hr9:=M.Ya (k:=0) rfl
    have e9:([.int .i64 (UO l o n:Nat),.bool (Zu l o n)]:List AV)=[.int .i64 0,.bool true]:=by
     clear M B hr K hT hr9
     cases o<;>simp_all [UO,Zu]<;>omega
    show Qx _ mp 0 [.int .i64 (UO l o n:Nat),.bool (Zu l o n)];rw[e9];exact hr9
  refine au 11 K M ?_;intro _ _ K _ M;refine Qb 0 K M ?_;refine⟨congrArg AV.bool ?_,?_,(B.step M).JM⟩
  ·clear M B hr K hT
   cases o<;>simp_all [BZ]<;>omega
  ·have hr9:=M.Ya (k:=0) rfl
   have e9:([.int .i64 (UO l o n:Nat),.bool (Zu l o n)]:List AV)=[.int .i64 ((((l:Nat):Int)-((n:Nat):Int))),.bool o]:=by
    clear M B hr K hT hr9
    cases o<;>simp_all [UO,Zu]<;>omega
   show Qx _ mp 0 [.int .i64 (UO l o n:Nat),.bool (Zu l o n)];rw[e9];exact hr9
 refine Qb 7 K M ?_;refine⟨congrArg AV.bool ?_,?_,(B.step M).JM⟩
 ·clear M B hr K hT
  cases o<;>simp_all [BZ]<;>omega
 ·have hr9:=M.Ya (k:=0) rfl
  have e9:([.int .i64 (UO l o n:Nat),.bool (Zu l o n)]:List AV)=[.int .i64 (l:Nat),.bool o]:=by
   clear M B hr K hT hr9
   cases o<;>simp_all [UO,Zu]<;>omega
  show Qx _ mp 0 [.int .i64 (UO l o n:Nat),.bool (Zu l o n)];rw[e9];exact hr9

theorem Ds(hf:Qi st)(hr:Qx st.h.get mp 0 [.int .i64 (l:Nat),.bool false])(hl:l≤9223372036854775807)(n:Nat)(hn:n≤l): ∃v st',Jf 72 [.ptr mp 0 0,.int .i64 (n:Nat)] st v st'∧v=.bool true∧(Yr mp (l-n) false).H st'.h.get∧UQ (fun c=>c=mp) st st':=by
 obtain⟨v,st',h1,h2,h3,h4⟩:=Nk hf hr hl n Qc;exact⟨v,st',h1,by rw[h2,Tp hn],by rw[HZ hn]at h3;exact h3,h4⟩

theorem VX(hf:Qi st)(hr:Qx st.h.get mp 0 [iN l,.bool false])(hl1:1≤l)(hl:l≤9223372036854775807)(n:Nat): ∃v st',Jf 44 [.ptr mp 0 0,iN n] st v st'∧v=.bool (decide ((n:Int)≤400))∧(Yr mp (l-1) false).H st'.h.get∧UQ (fun c=>c=mp) st st':=by
 have B:=Qk.UK (o:=Yr mp l false) hf hr (fun c hc=>(show c=mp from hc)▸hr.lt hf);refine J7 Tryz.func44 Tryz.ntmps44 fun T K=>?_;have M:=B.mem;refine Qb 2 K M fun _ K=>?_;replace B:=B.step M;obtain⟨v6,st6,ev6,rfl,hm3,Q3⟩:=Ds B.fresh (B.at_ (k:=0) rfl) hl 1 hl1;refine p1 K (Qf rfl ev6) fun _ K=>?_;replace B:=B.call (k:=0) (o':=Yr mp (l-1) false) rfl Q3 hm3 (fun c hc=>⟨.inl hc,Nat.lt_of_lt_of_le (B.Y3 (k:=0) rfl c hc) Q3.le⟩);have M:=B.mem;refine Qb 5 K M ?_;replace B:=B.step M;exact⟨rfl,B.at_ (k:=0) rfl,B.JM⟩

end
section
open Go Go.RowKit

def iK(w:List Nat)(i:Nat):Nat:=(w[i]?).getD 0
theorem IS{a:Au}{k c:Nat}{q:List Int}{x:Int}:x∈JY a k q c↔ ∃z∈q,∃u,u≤1∧x=((a.go z.toNat (Zq k c u):Nat):Int):=by
 unfold JY;rw[XM,GF]
theorem DA{a:Au}{k:Nat}{z:Int}: ∀(w:List Nat) (q:List Int),(∀y∈q,0≤y)→(z∈w.foldl (JY a k) q↔ ∃y∈q,∃us:List Nat,us.length=w.length∧(∀u∈us,u≤1)∧z=((a.run y.toNat (List.zipWith (Zq k) w us):Nat):Int))
 |[],q,hq=>by
  constructor
  ·intro h;exact⟨z,h,[],rfl,(fun u hu=>by cases hu),(Int.toNat_of_nonneg (hq z h)).symm⟩
  ·rintro⟨y,hy,us,_,_,rfl⟩
   show((y.toNat:Nat):Int)∈q;rw[Int.toNat_of_nonneg (hq y hy)];exact hy
 |c::w,q,hq=>by
  rw[List.foldl_cons,DA w (JY a k q c) fun y hy=>by
   obtain⟨_,_,_,_,rfl⟩:=IS.1 hy
   omega]
  constructor
  ·rintro⟨y',hy',us,hl,hu,rfl⟩
   obtain⟨y,hy,u,hu1,rfl⟩:=IS.1 hy';refine⟨y,hy,u::us,by simp[hl],fun x hx=>?_,rfl⟩;rcases List.mem_cons.1 hx with rfl|hx
   ·exact hu1
   ·exact hu x hx
  ·rintro⟨y,hy,us,hl,hu,rfl⟩
   cases us with
   |nil=>simp at hl
   |cons u us=>
    exact⟨_,IS.2 ⟨y,hy,u,hu u Q4,rfl⟩,us,by simpa using hl,fun x hx=>hu x (by simp[hx]),rfl⟩
def Tk(k c:Nat):Prop:=c=0∨c=2^k
theorem yM{a:Au}{k:Nat}: ∀(r:List Nat) {s:Nat},(∀c∈r,Tk k c)→a.ok (a.run s r)=true→vP a k s
 |[],s,_,h=>.acc h
 |c::r,s,hr,h=>by
  have ih:=yM (a:=a) (k:=k) r (s:=a.go s c) (fun x hx=>hr x (by simp[hx])) h;rcases hr c Q4 with e|e
  ·subst e;exact .low ih
  ·subst e;exact .high ih
theorem yL{a:Au}{k s:Nat}(h:vP a k s): ∃r:List Nat,(∀c∈r,Tk k c)∧a.ok (a.run s r)=true:=by
 induction h with
 |acc h=>exact⟨[],fun c h=>(by cases h),h⟩
 |low _ ih=>obtain⟨r,h1,h2⟩:=ih;exact⟨0::r,fun c hc=>by rcases List.mem_cons.1 hc with rfl|hc;exact .inl rfl;exact h1 c hc,h2⟩
 |high _ ih=>obtain⟨r,h1,h2⟩:=ih;exact⟨2^k::r,fun c hc=>by rcases List.mem_cons.1 hc with rfl|hc;exact .inr rfl;exact h1 c hc,h2⟩
theorem vK{acc:List Bool}{q:List Int}:anyS acc q=true↔ ∃z∈q,I8 acc z.toNat=true:=by unfold anyS;rw[List.any_eq_true]
end
section
open Go Go.RowKit

def OA(a b:Au)(p:Nat×Nat)(c:Nat):Nat×Nat:=(a.go p.1 c,b.go p.2 c)
def CR(t:Nat)(x y:Bool):Bool:=t/2^((if x then 2 else 0)+(if y then 1 else 0)) % 2==1
def I7(a b:Au)(t:Nat)(p:Nat×Nat):Bool:=CR t (a.ok p.1) (b.ok p.2)
theorem wg(a b:Au): ∀(w:List Nat) (p:Nat×Nat),w.foldl (OA a b) p=(a.run p.1 w,b.run p.2 w)
 |[],p=>rfl
 |c::w,p=>by rw[List.foldl_cons,wg a b w];rfl
abbrev I6(a b:Au)(t:Nat)(l:List (Nat×Nat))(m:Au):Prop:=UA (OA a b) (0,0) (I7 a b t) l m∧m.tr=a.tr
theorem I6.DP{a b m:Au}{t:Nat}{l:List (Nat×Nat)}(H:I6 a b t l m){w:List Nat}(hw:X4 a.K w):m.ok (m.run 0 w)=CR t (a.ok (a.run 0 w)) (b.ok (b.run 0 w)):=by
 rw[H.1.DP (by unfold Au.K at hw ⊢;rw[H.2];exact hw),wg];rfl
theorem GG{a:Au}{k:Nat}{z:Int}(w:List Nat):z∈w.foldl (JY a k) [0]↔ ∃us:List Nat,us.length=w.length∧(∀u∈us,u≤1)∧z=((a.run 0 (List.zipWith (Zq k) w us):Nat):Int):=by
 rw[DA w [0] fun y hy=>by rw[List.mem_singleton.1 hy];decide];constructor
 ·rintro⟨y,hy,us,h⟩
  rw[List.mem_singleton.1 hy]at h;exact⟨us,h⟩
 ·rintro⟨us,h⟩
  exact⟨0,by simp,us,h⟩
theorem Bs{T k:Nat}(hk:k<T): ∀{w us:List Nat},X4 (2^(T-1)) w→(∀u∈us,u≤1)→X4 (2^T) (List.zipWith (Zq k) w us)
 |[],us,_,_=>by intro c hc;simp at hc
 |x::w,[],_,_=>by intro c hc;simp at hc
 |x::w,u::us,hw,hu=>by
  intro c hc;rw[List.zipWith_cons_cons]at hc;rcases List.mem_cons.1 hc with rfl|hc
  ·exact IJ hk (hw x Q4) (hu u Q4)
  ·exact Bs hk (fun y hy=>hw y (by simp[hy])) (fun y hy=>hu y (by simp[hy])) c hc
section
variable {a b m:Au} {t k:Nat} {l:List (Nat×Nat)} {w:List Nat}
end
theorem zr{a:Au}(W:Zp a){k:Nat}(hk:k<a.tr){acc:List Bool}(hc:EO a k acc){w:List Nat}(hw:X4 (2^(a.tr-1)) w):anyS acc (w.foldl (JY a k) [0])=true↔ ∃us:List Nat,us.length=w.length∧(∀u∈us,u≤1)∧ ∃r:List Nat,(∀c∈r,Tk k c)∧a.ok (a.run 0 (List.zipWith (Zq k) w us++r))=true:=by
 rw[vK];constructor
 ·rintro⟨z,hz,hb⟩
  obtain⟨us,h1,h2,rfl⟩:=(GG w).1 hz;rw[Int.toNat_natCast]at hb;obtain⟨r,h3,h4⟩:=yL ((hc.iff _ (W.Nd _ W.pos (Bs hk hw h2))).1 hb);exact⟨us,h1,h2,r,h3,by rw[Au.SR];exact h4⟩
 ·rintro⟨us,h1,h2,r,h3,h4⟩
  rw[Au.SR]at h4;exact⟨_,(GG w).2 ⟨us,h1,h2,rfl⟩,by rw[Int.toNat_natCast];exact(hc.iff _ (W.Nd _ W.pos (Bs hk hw h2))).2 (yM r h3 h4)⟩
end
section
open Go Go.RowKit
variable {LL:List (List Int)} {fa fc:List AV} {fo:FuncId} {kL:AV} {lL:List (List AV)} {st:St}

theorem Yt.qt{st':St}(hf:Qi st)(q:Qt st st'){c m:Nat}{l:List AV}(r:Yt st.h.get c m l):Yt st'.h.get c m l:=r.OB hf (q.OB []) Q4
theorem Bh(hf:Qi st){l:List Bool}{kl:AV}(hl:Jg st.h.get [] 1 (bC l) kl)(hn:l.length≤1000000): ∃v st',Jf 48 [kl] st v st'∧ ∃ks,v=ks∧ED st st' 1 ks (bC l)∧Qt st st':=by
 have hcl:=Up l;refine J7 Tryz.func48 Tryz.ntmps48 fun T K=>?_;have M:=Mem.start hf;refine Qb 2 K M fun _ K=>?_;refine p1 K (G6 (hl.len.trans (congrArg some (Up _))) Yb rfl rfl) fun _ K=>?_;refine Qb 0 K M fun _ K=>?_;refine Uq K rfl (fun h4=>?_) fun h4=>?_
 ·have hb4:=h4;refine Qb 1 K M ?_
  have hbl:l=[]:=by
   have h:=hl.len;rw[Tj h4]at h
   injection h with h
   rw[Up]at h;exact Za h.symm
  exact⟨.nils,rfl,⟨[],by rw[hbl];exact .none,fun _ _ _ h=>by cases h⟩,M.qt⟩
 have hb4:=h4;refine au 2 K M ?_;intro c5 _ _ K _ M;replace M:=Mem.cast (M':=([(c5,0,[])]++[])) (Mem.perm M (List.perm_append_comm (α:=Nat×Nat×List AV) (l₁:=[(c5,0,[])]) (l₂:=[]))) Ux;have hA0c5:Acc st.n 1 [(c5,0,[])] (.sl c5 0 0 0 1) []:=Acc.own (n0:=st.n) (z:=1) (c:=c5) (m:=0) (ls:=[]) ((M.own c5 0 [] Q4).resolve_right Q4) Q4 Q4;refine SH (L:=[]) (A:=[(c5,0,[])]) (B:=[]) K M hA0c5 J3 rfl rfl (Jg.mem M hl Q4) (zg _) (by simp only[List.length_nil];omega) rfl fun ks7 A7 _ _ K hA7 M=>?_;refine Qb 1 K M ?_;refine⟨_,rfl,?_,M.qt⟩;have h:=Mem.BS (L:=[]) (B:=[]) M hA7
 simpa using h

theorem MY(hf:Qi st)(hLL:OC st.h.get LL kL lL){p:List Int→Bool}(hC: ∀(s:List Int) (w:AV) (st1:St),s∈LL→Qt st st1→Jg st1.h.get [] 1 (zC s) w→ ∃v st',Jf fo (fa++([w]++fc)) st1 v st'∧v=.bool (p s)∧Qt st1 st'): ∃v st',Jf 124 [kL,(AV.fn fo fa fc)] st v st'∧v=iZ (IX p LL 0)∧Qt st st':=by
 have hLb:=hLL.r.W3;rw[hLL.ln]at hLb;refine J7 Tryz.func124 Tryz.ntmps124 fun T K=>?_;have M:=Mem.start hf;refine Qb 2 K M fun _ K=>?_;refine p1 K (Q5 JS rfl rfl hLL.len) fun _ K=>?_;refine Qb 1 K M fun _ K=>?_;refine QX (fun mm1 T st9=> ∃(i:Nat),mm1=LL.length-i∧QS [(0,kL),(1,(AV.fn fo fa fc)),(7,iZ (LL.length:Nat)),(8,iN i)] T∧Mem st.h.get st.n [] st9 []∧i≤LL.length∧IX p LL 0=IX p (LL.drop i) i) (fun mm1 T st9 hI=>?_) _ _ _ ⟨0,rfl,(K.sub rfl),M.less (.refl _),(Nat.zero_le _),rfl⟩;obtain⟨i,rfl,K,M,hi,hx⟩:=hI;refine Qb 1 K M fun _ K=>?_;refine Jt K rfl (fun h9=>?_) fun h9=>?_
 ·refine Qb 5 K M fun _ K=>?_;obtain⟨s14,hi14⟩:=Uy LL i Qc;obtain⟨_,hc14,w14,rfl,hr14,hz14⟩:=hLL.at_ _ _ hi14;refine oI (Jg.mem M hLL.r Q4) hc14 K QY Ja rfl rfl rfl fun _ _ _ _ K=>?_;obtain⟨v16,st16,ev16,rfl,q16⟩:=hC s14 _ _ (List.mem_of_getElem? hi14) M.qt (Jg.mem M hr14 Q4);refine p1 K (ZZ rfl rfl ev16) fun _ K=>?_;replace M:=M.quiet q16;refine Qb 0 K M fun _ K=>?_;refine Uq K rfl (fun h16=>?_) fun h16=>?_
  ·have hb16:=h16;refine Qb 2 K M ?_;exact⟨by rw[hx,Ff hi14,if_pos h16],M.qt⟩
  have hb16:=h16;refine Qb 2 K M fun _ K=>?_;exact⟨_,Qc,i+1,rfl,(K.sub rfl),M.less (.refl _),Qc,(by rw[hx,Ff hi14,if_neg (by rw[h16];decide)])⟩
 refine QK ?_;show W _ _ _ _ _ _ _;refine Qb 1 K M ?_;exact⟨by rw[hx,DX Qc],M.qt⟩

theorem Cv(hf:Qi st)(hLL:OC st.h.get LL kL lL){p:List Int→Bool}(hC: ∀(s:List Int) (w:AV) (st1:St),s∈LL→Qt st st1→Jg st1.h.get [] 1 (zC s) w→ ∃v st',Jf fo (fa++([w]++fc)) st1 v st'∧v=.bool (p s)∧Qt st1 st'): ∃v st',Jf 92 [kL,(AV.fn fo fa fc)] st v st'∧v=.bool (LL.any p)∧Qt st st':=by
 have hLb:=hLL.r.W3;rw[hLL.ln]at hLb;refine J7 Tryz.func92 Tryz.ntmps92 fun T K=>?_;have M:=Mem.start hf;refine Qb 3 K M fun _ K=>?_;refine oQ K M (MY M.fresh (hLL.J9 hf fun c hc=>M.J9 c hc Q4) (fun s w st1 hs q hr=>hC s w st1 hs (M.qt.trans q) hr)) rfl rfl fun _ _ K M=>?_;refine Qb 2 K M ?_;exact⟨by rw[←DY p LL 0],M.qt⟩

theorem Cu(hf:Qi st)(hLL:OC st.h.get LL kL lL)(hC: ∀(s:List Int) (w:AV) (st1:St),s∈LL→Qt st st1→Jg st1.h.get [] 1 (zC s) w→ ∃v st',Jf fo (fa++([w]++fc)) st1 v st'∧v=.bool false∧Qt st1 st'): ∃v st',Jf 92 [kL,.fn fo fa fc] st v st'∧v=.bool false∧Qt st st':=by
 obtain⟨v,st',h1,h2,h3⟩:=Cv (p:=fun _=>false) hf hLL hC;exact⟨v,st',h1,by rw[h2];simp,h3⟩

theorem eS(hf:Qi st){cn:Nat}{n x:Int}(hc:Yt st.h.get cn 0 [iZ n])(h1:0≤x)(h2:x<n): ∃v st',Jf 91 [iZ x,.ptr cn 0 0] st v st'∧v=.bool false∧Qt st st':=by
 refine J7 Tryz.func91 Tryz.ntmps91 fun T K=>?_;have M:=Mem.start hf;refine Qb 3 K M fun _ K=>?_;refine Ug K rfl (fun _ e6 K=>?_) fun _ e6 K=>?_
 ·refine Qb 1 K M fun _ K=>?_;refine pg K rfl rfl (Qg rfl (Qw (M.JF Q4 hc) (Qd Qn rfl))) fun _ K=>?_;refine Qb 3 K M ?_;exact⟨congrArg AV.bool (decide_eq_false Qc),M.qt⟩
 exfalso;omega

theorem eR(hf:Qi st){a:Au}(wf:Zp a){ka kn:AV}{ca cf cn:Nat}(hca:Yt st.h.get ca 0 [iZ (a.tr:Nat),ka,kn])(hcf:Yt st.h.get cf 0 [.fn 91 [] [.ptr cn 0 0]])(hcn:Yt st.h.get cn 0 [iZ (a.n:Nat)]){r:List Int}{kl:AV}(hm:r∈a.nx)(hl:Jg st.h.get [] 1 (zC r) kl): ∃v st',Jf 93 [kl,.ptr ca 0 0,.ptr cf 0 0] st v st'∧v=.bool false∧Qt st st':=by
 obtain⟨hr1,hr2⟩:=wf.row r hm;have hp:=JG wf.tr;have hr1':r.length=2^a.tr:=hr1;have htr:=wf.tr;refine J7 Tryz.func93 Tryz.ntmps93 fun T K=>?_;have M:=Mem.start hf;refine Qb 2 K M fun _ K=>?_;refine p1 K (Q5 Je rfl rfl (hl.len.trans (congrArg some (Qp _)))) fun _ K=>?_;refine Qb 1 K M fun _ K=>?_;refine p1 K (Qg rfl (Qw (M.JF Q4 hca) (Qd Qn rfl))) fun _ K=>p1 K (US (n:=a.tr) rfl rfl Qc) fun _ K=>?_;refine Qb 1 K M fun _ K=>?_;refine oB K (Qy rfl) rfl fun b11 _ e11 K=>?_;cases b11
 ·replace e11:(((r.length:Nat):Int)=((2^a.tr:Nat):Int)):=by simpa using e11
  refine Qb 1 K M fun _ K=>?_;refine pg K rfl rfl (Qg rfl (Qw (M.JF Q4 hcf) (Qd H9 rfl))) fun _ K=>?_;obtain⟨v14,st14,ev14,rfl,q14⟩:=Iw (fo:=91) (fa:=[]) (fc:=[.ptr cn 0 0]) M.fresh (Jg.mem M hl Q4) Qc (fun x hx st1 q=>eS q.fresh ((hcn.qt hf M.qt).qt M.fresh q) (hr2 x hx).1 (hr2 x hx).2);refine pg K rfl rfl (Qf rfl ev14) fun _ K=>?_;replace M:=M.quiet q14;refine Qb 2 K M ?_;exact⟨rfl,M.qt⟩
 replace e11: ¬(((r.length:Nat):Int)=((2^a.tr:Nat):Int)):=by simpa using e11
 exfalso;omega

theorem aD(hf:Qi st){a:Au}(wf:Zp a){ka kn:AV}{ls:List (List AV)}(hA:Jg st.h.get [] 1 (bC a.acc) ka)(hN:OC st.h.get a.nx kn ls): ∃v st',Jf 69 [.agg [iZ (a.tr:Nat),ka,kn]] st v st'∧v=.bool true∧Qt st st':=by
 have htr:=wf.tr;have hps:=wf.pos;have hmo:=wf.most;have hln:=wf.len;have hen:a.n=a.acc.length:=rfl;have hac:=hA.cell;have hnc:=hN.r.cell;refine J7 Tryz.func69 Tryz.ntmps69 fun T K=>?_;have M:=Mem.start hf;refine Qb 0 K M fun _ K=>?_;refine Jv K M rfl (Qa rfl (Qa hA.cell (Qa hN.r.cell Qz))) Q8 fun c1 _ _ K M=>?_;refine Qb 3 K M fun _ K=>?_;refine p1 K (Q5 Yb rfl rfl (hA.len.trans (congrArg some (Up _)))) fun _ K=>?_;refine au 5 K M ?_;intro c3 _ _ K _ M;refine Ug K rfl (fun _ e11 K=>?_) fun _ e11 K=>?_
 ·refine Qb 4 K M fun _ K=>?_;refine Ug K rfl (fun _ e16 K=>?_) fun _ e16 K=>?_
  ·refine Qb 3 K M fun _ K=>?_;refine Ug K rfl (fun _ e20 K=>?_) fun _ e20 K=>?_
   ·refine Qb 3 K M fun _ K=>?_;refine Ug K rfl (fun _ e24 K=>?_) fun _ e24 K=>?_
    ·refine Qb 1 K M fun _ K=>?_;refine pg K rfl rfl (Qg rfl (M.load (k:=1) rfl (Qd Q7 rfl))) fun _ K=>pg K rfl rfl (Q5 JS rfl rfl hN.len) fun _ K=>?_;refine Qb 3 K M fun _ K=>?_;refine aS K rfl (fun h30=>?_) fun h30=>?_
     ·exfalso;omega
     refine Qb 0 K M fun _ K=>?_;refine p1 K (X9 rfl rfl) fun _ K=>?_;refine LI K M H5 Q8 fun c4 _ _ K M=>?_;refine QU (k:=0) K M rfl rfl rfl HD rfl rfl rfl fun _ M=>?_;refine Qb 1 K M fun _ K=>?_;refine p1 K (Qg rfl (M.load (k:=2) rfl (Qd Q7 rfl))) fun _ K=>p1 K (X9 rfl rfl) fun _ K=>?_;have hrw1:=(M.Ya (k:=2) rfl).Jb;have hrw3:=(M.Ya (k:=1) rfl).Jb;have hrw4:=(M.Ya (k:=0) rfl).Jb;have hfr:=M.fresh;refine oQ K M (Cu (fo:=93) (fa:=[]) (fc:=[.ptr c1 0 0,.ptr c4 0 0]) M.fresh (hN.J9 hf fun c hc=>M.J9 c hc Q4) (fun s w st1 hs q hr=>eR q.fresh wf (hrw1.qt hfr q) (hrw4.qt hfr q) (hrw3.qt hfr q) hs hr)) rfl rfl fun _ _ K M=>?_;refine Qb 2 K M ?_;exact⟨rfl,M.qt⟩
    exfalso;omega
   exfalso;omega
  exfalso;omega
 exfalso;omega
end
section
open Go Go.RowKit

abbrev zN(l:List Nat):List Int:=l.map fun r=>((r:Nat):Int)
theorem H7(l:List Nat)(r:Nat):zN (l++[r])=zN l++[((r:Nat):Int)]:=by simp
section
variable {st0 st:St} {X0:Fp} {M A1 A2:QM} {Os:List Ob} {F1:Fp} {dp sp n0 n1:Nat} {ka kr:AV} {a:Au} {S:U7} {roots:List Nat}
theorem Qk.aj(B:Qk st0 X0 st ((dp,0,[ka,kr,.ptr sp 0 0])::(A1++(A2++M))) (XG F1 sp a.tr S::Os))(hA1:Acc n0 1 A1 ka (bC a.acc))(hA2:Acc n1 1 A2 kr (zC (zN roots)))(wfS:Xn a.tr S)(wf:Zp a)(hl:roots.length=a.n)
  (hr: ∀(s r:Nat),roots[s]? =some r→r<S.length∧a.nx[s]? =some (WE a.tr S r)): ∃F,Qk st0 X0 st M (Iv F dp a::Os):=by
 have h1:Jg st.h.get [] 1 (bC a.acc) ka:=Mem.Ys (L:=[(dp,0,[ka,kr,.ptr sp 0 0])]) (B:=A2++M) B.mem hA1;have h2:Jg st.h.get [] 1 (zC (zN roots)) kr:=Mem.Ys (L:=(dp,0,[ka,kr,.ptr sp 0 0])::A1) (B:=M) (B.mem.cast Q4) hA2;have h0:=B.row dp 0 _ (List.mem_cons_self ..);have B0:Qk st0 X0 st (((dp,0,[ka,kr,.ptr sp 0 0])::(A1++A2))++M) (XG F1 sp a.tr S::Os):=B.cast Q4;have B1:=B0.freeze (o:=Xs ((dp,0,[ka,kr,.ptr sp 0 0])::(A1++A2))) (fun c m l hm=>B0.row c m l (List.mem_append_left _ hm)) (fun c hc=>hc)
 have f1:zF (Xs ((dp,0,[ka,kr,.ptr sp 0 0])::(A1++A2))).F ka:=fun c m o n y e=>by
  obtain⟨m,l,h⟩:=hA1.vk c m o n y e;exact⟨m,l,by simp[h]⟩
 have f2:zF (Xs ((dp,0,[ka,kr,.ptr sp 0 0])::(A1++A2))).F kr:=fun c m o n y e=>by
  obtain⟨m,l,h⟩:=hA2.vk c m o n y e;exact⟨m,l,by simp[h]⟩
 refine⟨fun c=>(Xs ((dp,0,[ka,kr,.ptr sp 0 0])::(A1++A2))).F c∨F1 c,B1.join (fun g1 g2=>?_) fun c hc=>hc⟩;exact⟨ka,kr,sp,F1,S,roots,h0,.inl ⟨_,_,List.mem_cons_self ..⟩,h1,fun c m o n y e=>.inl (f1 c m o n y e),h2,fun c m o n y e=>.inl (f2 c m o n y e),g2,fun c hc=>.inr hc,wfS,wf,hl,hr⟩
end
theorem jt{T:Nat}{S S':U7}(W:Xn T S)(h:S<+:S'){r:Nat}(hr:r<S.length):WE T S' r=WE T S r:=by
 unfold WE;exact List.map_congr_left fun c _=>Zs W h hr c
theorem Rv{a:Au}{S S':U7}{rs:List Nat}{r i:Nat}{row:List Int}(wfS:Xn a.tr S)(wf':Xn a.tr S')(hp:S<+:S')(hr:r<S'.length)(hl:rs.length=i)(hi:a.nx[i]? =some row)(hrow:row.length=2^a.tr)(he: ∀c,c<2^a.tr→row[c]? =some (Y4 S' r c))
  (h: ∀(s r:Nat),rs[s]? =some r→r<S.length∧a.nx[s]? =some (WE a.tr S r)): ∀(s q:Nat),(rs++[r])[s]? =some q→q<S'.length∧a.nx[s]? =some (WE a.tr S' q):=by
 intro s q hs
 by_cases hlt:s<rs.length
 ·rw[List.getElem?_append_left hlt]at hs;obtain⟨h1,h2⟩:=h s q hs;exact⟨Nat.lt_of_lt_of_le h1 hp.length_le,by rw[h2,jt wfS hp h1]⟩
 ·have h3:=(List.getElem?_eq_some_iff.1 hs).1;rw[List.length_append,List.length_singleton]at h3
  have h4:s=rs.length:=by omega
  subst h4;rw[List.getElem?_append_right (Nat.le_refl _),Nat.sub_self]at hs
  injection hs with hs
  subst hs;exact⟨hr,by rw[hl,hi,xx hrow he]⟩

theorem Ed{st:St}(hf:Qi st){a:Au}(wf:Zp a){ka kn:AV}{ls:List (List AV)}(hA:Jg st.h.get [] 1 (bC a.acc) ka)(hN:OC st.h.get a.nx kn ls): ∃v st',Jf 43 [.agg [iZ (a.tr:Nat),ka,kn]] st v st'∧ ∃dp F,v=.tup [.ptr dp 0 0,iZ 0]∧UX st' F dp a∧ZP st st' F∧Qt st st':=by
 have htr:=wf.tr;have hps:=wf.pos;have hmo:=wf.most;have hln:=wf.len;have hen:a.n=a.acc.length:=rfl;have hac:=hA.cell;have hnc:=hN.r.cell;have hp64:=JG wf.tr;have B:=Qk.start hf;refine J7 Tryz.func43 Tryz.ntmps43 fun T K=>?_;have M:=B.mem;refine Qb 0 K M fun _ K=>?_;refine Jv K M rfl (Qa rfl (Qa hA.cell (Qa hN.r.cell Qz))) Q8 fun c1 _ _ K M=>?_;refine Qb 3 K M fun _ K=>?_;replace B:=B.step M;obtain⟨v8,st8,ev8,rfl,q8⟩:=aD B.fresh wf (B.F5 hf hA) (hN.J9 hf fun c hc=>B.J9 c hc id);refine p1 K (Qf rfl ev8) fun _ K=>?_;replace B:=B.quiet q8;have M:=B.mem;refine Qb 2 K M fun _ K=>?_;refine QA (l:=[(0,0),(1,0),(2,0),(3,0),(4,1),(5,0),(6,0),(7,0),(8,0)]) (by kernel_rfl) ?_;have Mq:=M;refine Jo 2 K M fun _ K=>?_;obtain⟨v12,st12,ev12,ks12,rfl,nr12,q12⟩:=Bh M.fresh ((B.step M).F5 hf hA) Qc;refine qA rfl K (Qf rfl ev12) fun _ K=>?_;obtain⟨A12,hA12,M⟩:=M.Yx q12 nr12;simp only[XB]at M;have Mp:=Mq;have Mq:=M;refine Jo 1 K M fun _ K=>?_;refine Ju rfl K rfl (M.load (k:=0) rfl (Qd Qn rfl)) (Mp.load (k:=0) rfl (Qd Qn rfl)) (JI rfl) rfl Q8 fun _ K=>?_;replace B:=B.step M;obtain⟨v15,st15,ev15,sp,F15,rfl,hS15,nf15,q15⟩:=TM B.fresh wf.tr;refine qA rfl K (Qf rfl ev15) fun _ K=>?_;replace B:=B.new (o:=XG F15 sp a.tr []) q15 hS15.at_ nf15;have M:=B.mem;have Mp:=Mq;have Mq:=M;refine q1 rfl K (WJ Ky rfl ((JB rfl hA12.cell rfl).trans ((Fi rfl rfl rfl).trans rfl))) fun _ K=>?_;refine wB rfl K M rfl (Qa hA12.cell (Qa rfl (Qa rfl Qz))) rfl fun c17 _ _ K M=>?_;refine q1 rfl K (JV rfl) fun _ K=>QF ?_;show W _ _ _ _ _ _ _;refine Qb 1 K M fun _ K=>?_;refine p1 K (Qg rfl (M.load (k:=1) rfl (Qd Q7 rfl))) fun _ K=>p1 K (Q5 JS rfl rfl hN.len) fun _ K=>?_;refine Qb 1 K M fun _ K=>?_;refine QX (fun mm1 T st9=> ∃(i:Nat) (rs:List Nat) (kr:AV) (A:QM) (F:Fp) (S:U7),mm1=a.nx.length-i∧QS [(2,.nilp),(3,iZ 0),(4,.ptr c17 0 0),(19,kn),(20,iZ (a.nx.length:Nat)),(21,iN i)] T∧Qk st ZQ st9 ((c17,0,[v12,kr,.ptr sp 0 0])::(c1,0,[iZ (a.tr:Nat),ka,kn])::(A12++(A++[]))) [XG F sp a.tr S]∧Acc 0 1 A kr (zC (zN rs))∧i≤a.nx.length∧rs.length=i∧Xn a.tr S∧S.length≤i *127∧(∀(s r:Nat),rs[s]? =some r→r<S.length∧a.nx[s]? =some (WE a.tr S r))) (fun mm1 T st9 hI=>?_) _ _ _ ⟨0,[],.nils,[],_,[],rfl,(K.sub rfl),(B.step M).less (.refl _),.none,(Nat.zero_le _),rfl,(Xn.nil _),(Nat.zero_le _),(fun s r h=>by simp at h)⟩;obtain⟨i,rs,kr,A,F,S,rfl,K,B,hA4,hi,hrl,wfS,hSl,hrs⟩:=hI;have M:=B.mem;refine Qb 1 K M fun _ K=>?_;refine Jt K rfl (fun h22=>?_) fun h22=>?_
 ·refine Qb 0 K M fun _ K=>?_;obtain⟨s23,hi23⟩:=Uy a.nx i Qc;obtain⟨_,hc23,w23,rfl,hr23,hz23⟩:=hN.at_ _ _ hi23;refine oI ((B.step M).F5 hf hN.r) hc23 K QY Ja rfl rfl rfl fun _ _ _ _ K=>?_;refine Qb 1 K M fun _ K=>?_;refine QA (l:=[(5,0),(6,0),(7,0),(8,0),(9,0),(10,0),(1,0),(2,0),(3,0),(4,1),(11,0),(12,0),(0,0),(13,0),(14,0),(15,0)]) (by kernel_rfl) ?_;have Mq:=M;refine Jo 5 K M fun _ K=>?_;replace B:=B.step M;have hs24:=wf.row s23 (List.mem_of_getElem? hi23)
  have hlB:(S.length:Nat)+(2^(a.tr-0+1)-1)≤1000000000:=by rw[Nat.sub_zero,Nat.pow_succ];omega
  obtain⟨v35,st35,ev35,r35,S35,rfl,ho35,mb35,hev35⟩:=zb B.fresh (B.Kx (k:=0) rfl) wf.tr wfS hlB (B.F5 hf hr23) (B.off (k:=0) rfl hf hr23 fun _ _ _ _ _ _=>id) hs24.1 (fun x hx=>by have:=hs24.2 x hx;omega);refine qA rfl K (Qf rfl ev35) fun _ K=>?_;obtain⟨F35,B⟩:=B.Wf ho35;have M:=B.mem;have Mp:=Mq;have Mq:=M;refine Jo 3 K M fun _ K=>?_;refine Ju rfl K rfl (M.load (k:=0) rfl (Qd Ja rfl)) (Mp.load (k:=0) rfl (Qd Ja rfl)) (JI (Ub hA4.len)) rfl Q8 fun _ K=>?_;refine Xp rfl K M QD Xv rfl rfl rfl rfl rfl fun c36 _ _ K M=>?_;refine ZT (k2:=0) (L:=((c36,0,[iN r35])::(c17,0,[v12,kr,.ptr sp 0 0])::(c1,0,[iZ (a.tr:Nat),ka,kn])::(A12++[]))) (B:=[]) rfl K (Mem.cast M Ux) hA4 QD rfl rfl rfl rfl (by simp only[Qp,List.length_map];omega) rfl fun ks37 A37 _ _ K hA37 M=>?_;simp only[XB]at M;have Mp:=Mq;have Mq:=M;refine Jo 3 K M fun _ K=>?_;refine Ze (k:=1) rfl K M rfl rfl rfl CU (hA37.cell) rfl fun _ M=>?_;have Mp:=Mq;have Mq:=M;refine QF ?_;show W _ _ _ _ _ _ _;refine Qb 2 K M fun _ K=>?_;exact⟨_,Qc,i+1,rs++[r35],ks37,A37,_,S35,rfl,(K.sub rfl),(B.step M).less (.cons _ (.refl _)),(by rw[H7,JW];exact hA37),Qc,(by rw[List.length_append,hrl];rfl),mb35.wf,(by have:=mb35.len;rw[Nat.pow_succ]at this;omega),(Rv wfS mb35.wf mb35.pre mb35.lt hrl hi23 hs24.1 hev35 hrs)⟩
 refine QK ?_;show W _ _ _ _ _ _ _;refine Qb 3 K M ?_;obtain⟨F',B'⟩:=Qk.aj (M:=[]) (((B.step M).less ((.cons_cons _ (.cons _ (.refl _)))))) hA12 hA4 wfS wf Qc hrs;exact⟨_,F',rfl,B'.qS (k:=0) rfl,B'.uA (k:=0) rfl,B'.qt⟩
end
end Go.Proofs.YtiknomepbklibaaGreatDoor
