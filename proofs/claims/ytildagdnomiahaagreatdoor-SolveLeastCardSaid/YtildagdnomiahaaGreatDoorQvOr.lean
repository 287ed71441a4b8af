/-
  Automata: their rows, anew.
-/
import Derived.Test.YtildagdnomiahaaGreatDoorQvAuC
set_option linter.unnecessarySimpa false
set_option linter.unusedSimpArgs false
set_option linter.unusedVariables false
namespace Go.Proofs.YtildagdnomiahaaGreatDoor
open Go Go.RowKit
section
set_option maxHeartbeats 8000000
set_option maxRecDepth 100000
variable {F:Fp} {a:Au}

def Tz(st st':St)(a:Au)(v:AV):Prop:= ∃(ka kn:AV) (vs:List AV) (A:QP) (F:Fp),v=.agg [.int .i64 (a.tr:Nat),ka,kn]∧Acc 0 1 A ka (bC a.acc)∧Zw st'.h.get F kn vs a.nx∧Vn st st' F∧(A.map Prod.fst).Nodup∧ ∀c m l,(c,m,l)∈A→Qu st'.h.get c m l∧st.n≤c∧ ¬F c
theorem Ql.He{st0 st st':St}{X0:Fp}{M:QP}{Os:List Ob}(B:Ql st0 X0 st M Os)(q:Qt st st'){v:AV}(h:Tz st st' a v): ∃ka kn vs A F,v=.agg [.int .i64 (a.tr:Nat),ka,kn]∧Acc 0 1 A ka (bC a.acc)∧Ql st0 X0 st' (M++(A++[])) (Oc F kn vs a.nx::Os):=by
 obtain⟨ka,kn,vs,A,F,h1,h2,h3,h4,h5,h6⟩:=h;have B1:=B.new (o:=Oc F kn vs a.nx) q h3 h4;have hlt: ∀c m l,(c,m,l)∈A→c<st'.n:=fun c m l hm=>(h6 c m l hm).1.lt q.fresh;refine⟨ka,kn,vs,A,F,h1,h2,B1.fresh,B1.le,fun c m l hm=>?_,?_,fun c m l hm=>?_,B1.obj,B1.hi,B1.dj,fun o ho c m l hm hc=>?_,B1.J5⟩
 ·rw[List.append_nil]at hm;rcases List.mem_append.1 hm with hm|hm
  ·exact B1.row c m l hm
  ·exact(h6 c m l hm).1
 ·rw[List.append_nil,List.map_append];refine List.nodup_append.2 ⟨B.nodup,h5,fun x hx y hy e=>?_⟩;subst e;obtain⟨⟨c,m,l⟩,k1,rfl⟩:=List.mem_map.1 hx;obtain⟨⟨c',m',l'⟩,k2,k3⟩:=List.mem_map.1 hy;simp only at k3;subst k3;have:=(B.row _ m l k1).lt B.fresh;have:=(h6 _ m' l' k2).2.1;omega
 ·rw[List.append_nil]at hm;rcases List.mem_append.1 hm with hm|hm
  ·exact B1.lo c m l hm
  ·exact .inl (Nat.le_trans B.le (h6 c m l hm).2.1)
 ·rw[List.append_nil]at hm;rcases List.mem_append.1 hm with hm|hm
  ·exact B1.djM o ho c m l hm hc
  ·rcases List.mem_cons.1 ho with rfl|ho
   ·exact(h6 c m l hm).2.2 hc
   ·have:=(B.hi o ho c hc).1;have:=(h6 c m l hm).2.1;omega
theorem Ql.zW{st0 st:St}{M A:QP}{Os:List Ob}{ka kn:AV}{vs:List AV}(B:Ql st0 Ei st (M++(A++[])) (Oc F kn vs a.nx::Os))(hA:Acc 0 1 A ka (bC a.acc)):Tz st0 st a (.agg [.int .i64 (a.tr:Nat),ka,kn]):=by
 have hn:=B.nodup;rw[List.append_nil,List.map_append]at hn;refine⟨ka,kn,vs,A,F,rfl,hA,B.at_ (k:=0) rfl,B.ve (k:=0) rfl,(List.nodup_append.1 hn).2.1,fun c m l hm=>⟨B.row c m l (by simp[hm]),(B.lo c m l (by simp[hm])).resolve_right id,B.djM _ (List.mem_cons_self ..) c m l (by simp[hm])⟩⟩
section
variable {P:Program} {G:Env} {N:Nat} {h0:Hp} {n0:Nat} {X:List Nat} {st:St} {L A B:Uc} {T:Tr AV} {ops:List Oper} {K:List (Nat×AV)} {R:Tr AV→St→Prop} {d:Nat} {ty:TypeId} {pos:String} {af:Array Edge}
theorem zK{sn:List St}{i:Nat}{rr:List (Nat×Nat)}{x y:Operand}{t e:TypeId}{c2 m2 k2:Nat}{ks v:AV}{vs:List AV}(ho:ops[i]? =some ⟨some d,.call {callee:=.builtin .append,args:= #[x,y],argTypes:= #[t,t]},ty,pos,af,none⟩)(hK:QH K T)(hM:Mem h0 n0 X st (L++(A++B)))(hA:Zl A ks vs)(S:F8 P t e 1)(hx:QG G K x=some ks)(hy:QG G K y=some (.sl c2 m2 0 1 1))(hk:(L++(A++B))[k2]? =some (c2,m2,[v]))(hb:vs.length+1≤1000000000)(hN:Nat.ble (d+1) N=true)
  (hn: ∀(ks':AV) A' T' st',QH ((d,ks')::K) T'→Zl A' ks' (vs++[v])→(∀c m l,(c,m,l)∈A'→(∃m l,(c,m,l)∈A)∨st.n≤c)→Mem h0 n0 X st' (L++(A'++B))→WD P G N ops (rr.map (UY ops)) R T' st' (st'::sn)):WD P G N ops (((i,0)::rr).map (UY ops)) R T st sn:=by
 obtain⟨ks',A',st1,h1,h2,h3,h4⟩:=hM.wO hA S hk hb;exact GB ho hK (ZN rfl hx hy h1) rfl (Nat.le_of_ble_eq_true hN) fun T' hT'=>hn ks' A' T' st1 hT' h2 h4 h3
end

theorem aX{st:St}(hf:Qh st){dp:Nat}{ka kr:AV}{sp:Nat}{F1:Fp}{S:Uf}{roots:List Nat}(hX:Kx st F dp a ka kr sp F1 S roots): ∃v st',QV 160 [.ptr dp 0 0] st v st'∧Tz st st' a v∧Qt st st':=by
 have wf:=hX.wf;have hen:a.n=a.acc.length:=rfl;have hrl:=hX.len;have hmo:=wf.most;have hln:=wf.len;have htr:=wf.tr;have hp64:=JL wf.tr;have B:=Ql.start hf;refine Jv Tryz.func160 Tryz.ntmps160 fun T K=>?_;have M:=B.mem;refine au 2 K M ?_;intro c2 _ _ K _ M;refine p1 K (UA J7 rfl rfl) fun _ K=>?_;refine Qb 1 K M fun _ K=>?_;refine QT (l:=[(0,0),(1,0),(2,0),(3,0),(4,0),(5,1),(6,0),(7,0),(8,0),(9,0)]) (by kernel_rfl) ?_;have Mq:=M;refine q1 rfl K (Q8 rfl) fun _ K=>?_;obtain⟨v10,st10,ev10,rfl,q10⟩:=Nq M.fresh (hX.q (B.step M).qt);refine qA rfl K (Qf rfl ev10) fun _ K=>?_;replace M:=M.quiet q10;have Mp:=Mq;have Mq:=M;refine UT 3 K M fun _ K=>?_;refine JE rfl K rfl (Qr ((B.step M).ZA hf hX.row.QI id) (Qc JP rfl)) (Qr ((B.step Mp).ZA hf hX.row.QI id) (Qc JP rfl)) (Ul (YM (hX.acc.len.trans (congrArg some (Vi _))))) rfl Q9 fun _ K=>?_;obtain⟨v15,st15,ev15,ks15,rfl,nr15,q15⟩:=Gv M.fresh ((B.step M).Cf hf hX.acc) Qd;refine qA rfl K (Qf rfl ev15) fun _ K=>?_;obtain⟨A15,hA15,M⟩:=M.Yq q15 nr15;replace hA15:=hA15.z0;simp only[W4]at M;have Mp:=Mq;have Mq:=M;refine q1 rfl K (XW IF rfl ((Zt rfl rfl rfl).trans ((Uw rfl hA15.cell rfl).trans rfl))) fun _ K=>?_;refine Cp rfl K M El Q9 fun c3 _ _ K M=>?_;refine La (k:=0) rfl K M rfl rfl rfl Xh rfl (Qa rfl (Qa hA15.cell (Qa rfl QL))) rfl fun _ M=>?_;have Mp:=Mq;have Mq:=M;refine Jd ?_;show W _ _ _ _ _ _ _;refine Xc<|Xc ?_;replace B:=(B.step M).LB;have M:=B.mem;refine Qb 3 K M fun _ K=>?_;refine p1 K (Qi rfl (Qr ((B.step M).ZA hf hX.row.QI id) (Qc Jn rfl))) fun _ K=>p1 K (Q0 Jm rfl rfl (hX.rt.len.trans (congrArg some (by rw[Qy,List.length_map])))) fun _ K=>?_;refine Qb 1 K M fun _ K=>?_;refine Je (fun mm1 T st9=> ∃(i:Nat) (vs:List AV) (kn:AV) (A:QP) (F:Fp),mm1=roots.length-i∧QH [(0,.ptr dp 0 0),(2,.ptr c2 0 0),(3,.ptr c3 0 0),(20,kr),(21,iZ (roots.length:Nat)),(22,iN i)] T∧Ql st Ei st9 ((c3,0,[iZ (a.tr:Nat),v15,kn])::(c2,0,[iZ 0,.nils,.nils])::(A15++(A++[]))) [T9 F vs (a.nx.take i)]∧Zl A kn vs∧i≤roots.length) (fun mm1 T st9 hI=>?_) _ _ _ ⟨0,[],.nils,[],_,rfl,(K.sub rfl),(B.step M).less (.refl _),.none,(Nat.zero_le _)⟩;obtain⟨i,vs,kn,A,F,rfl,K,B,hA4,hi⟩:=hI;have M:=B.mem;refine Qb 1 K M fun _ K=>?_;refine U8 K rfl (fun h23=>?_) fun h23=>?_
 ·refine Qb 0 K M fun _ K=>?_;obtain⟨y24,hi24⟩:=YL roots i Qd;refine oI ((B.step M).Cf hf hX.rt) (Fa hi24) K QD Qs rfl rfl rfl fun _ _ _ _ K=>?_;refine Qb 1 K M fun _ K=>?_;refine QT (l:=[(2,0),(3,0),(4,0),(5,0),(6,0),(7,0),(0,0),(1,1),(8,0),(9,0),(10,0),(11,0)]) (by kernel_rfl) ?_;have Mq:=M;refine UT 3 K M fun _ K=>?_;refine q1 rfl K (Qi rfl (Qr ((B.step M).ZA hf hX.row.QI id) (Qc Jo rfl))) fun _ K=>q1 rfl K (Q8 rfl) fun _ K=>?_;obtain⟨hr1,hr2⟩:=hX.rts _ _ hi24;have hXi:=(hX.q (B.step M).qt).i;obtain⟨v33,st33,ev33,ks33,rfl,nr33,q33⟩:=vO M.fresh hXi wf.tr hX.wfS hr1;refine qA rfl K (Qf rfl ev33) fun _ K=>?_;obtain⟨A33,hA33,M⟩:=M.Yq q33 nr33;replace hA33:=hA33.z0;simp only[W4]at M;have Mp:=Mq;have Mq:=M;refine UT 1 K M fun _ K=>?_;refine JE rfl K rfl (M.load (k:=0) rfl (Qc QW rfl)) (Mp.load (k:=0) rfl (Qc QW rfl)) (Ul (YM hA4.len)) rfl Q9 fun _ K=>?_;refine Eo rfl K M J3 Yt rfl ((Uw rfl hA33.cell rfl).trans rfl) (Qa hA33.cell QL) rfl rfl fun c34 _ _ K M=>?_;refine zK (k2:=0) (L:=((c34,0,[v33])::(c3,0,[iZ (a.tr:Nat),v15,kn])::(c2,0,[iZ 0,.nils,.nils])::(A15++[]))) (B:=(A33++[])) rfl K (Mem.cast M Za) hA4 J3 rfl rfl rfl (by have:=((B.step M).at_ (k:=0) rfl).ln;rw[List.length_take]at this;omega) rfl fun ks35 A35 _ _ K hA35 _ M=>?_;simp only[W4]at M;refine UT 1 K M fun _ K=>?_;refine XJ (k:=1) rfl K M rfl rfl rfl ZM (hA35.cell) rfl fun _ M=>?_;have Mp:=Mq;have Mq:=M;refine Jd ?_;show W _ _ _ _ _ _ _;refine Qb 2 K M fun _ K=>?_;replace B:=B.step M;obtain⟨Fr,B⟩:=Ql.ND (L:=((c34,0,[v33])::(c3,0,[iZ (a.tr:Nat),v15,ks35])::(c2,0,[iZ 0,.nils,.nils])::(A15++(A35++[])))) (B:=[]) (B.cast Za) hA33 (wf.Rv _ (List.mem_of_getElem? hr2));replace B:=B.cast (M':=((c34,0,[v33])::(c3,0,[iZ (a.tr:Nat),v15,ks35])::(c2,0,[iZ 0,.nils,.nils])::(A15++(A35++[])))) Za
  have htk:a.nx.take i++[WB a.tr S y24]=a.nx.take (i+1):=by rw[List.take_add_one,hr2];rfl
  rw[htk]at B;have M:=B.mem;exact⟨_,Qd,i+1,_,ks35,A35,_,rfl,(K.sub rfl),(B.step M).less (.cons _ (.refl _)),hA35,Qd⟩
 refine QM ?_;show W _ _ _ _ _ _ _;refine Qb 1 K M fun _ K=>?_;refine Uh (k:=1) K M rfl rfl rfl Xh rfl (Qa rfl (Qa hA15.cell (Qa hA4.cell QL))) rfl fun _ M=>?_;refine Qb 0 K M ?_;refine⟨?_,(B.step M).qt⟩;replace B:=B.step M;have hti:a.nx.take i=a.nx:=List.take_of_length_le Qd;rw[hti]at B;obtain⟨F',B'⟩:=Ql.qF (L:=((c3,0,[iZ (a.tr:Nat),v15,kn])::(c2,0,[iZ (a.tr:Nat),v15,kn])::A15)) (B:=[]) (B.cast Za) hA4;exact Ql.zW (M:=[(c3,0,[iZ (a.tr:Nat),v15,kn]),(c2,0,[iZ (a.tr:Nat),v15,kn])]) (A:=A15) (B'.cast Qx) hA15

theorem H3{st:St}(hf:Qh st){dp:Nat}(hD:JH st F dp a): ∃v st',QV 160 [.ptr dp 0 0] st v st'∧Tz st st' a v∧Qt st st':=by
 obtain⟨_,_,_,_,_,_,hX⟩:=hD.x;exact aX hf hX
end
section

theorem Ie{α:Type}(f:α→AV){L:List α}{j:Nat}{x:α}(h:L[j]? =some x):nth (L.map f) (0+j *1)=some (f x):=by
 rw[JV,Nat.zero_add,Nat.mul_one,List.getElem?_map,h];rfl
theorem E1{α:Type}(f:α→AV)(w:α): ∀{L:List α} {j:Nat},j<L.length→YB [f w] (0+j *1) (L.map f)=some ((L.set j w).map f):=by
 intro L j h;rw[Nat.zero_add,Nat.mul_one]
 induction L generalizing j with
 |nil=>simp at h
 |cons a L ih=>
  cases j with
  |zero=>rfl
  |succ j=>
   rw[List.map_cons,L6,ih (by simpa using h)];rfl
theorem Iq{α:Type}(f:α→AV)(L:List α):(L.map fun x=>[f x]).flatten=L.map f:=by
 induction L with
 |nil=>rfl
 |cons a L ih=>rw[List.map_cons,List.flatten_cons,ih];rfl
theorem Acc.wv{α:Type}{f:α→AV}{n0:Nat}{A:QP}{ks:AV}{L:List α}(hA:Acc n0 1 A ks (L.map fun x=>[f x]))(hL:0<L.length): ∃c m,ks=.sl c m 0 L.length 1∧A=[(c,m,L.map f)]:=by
 generalize hg:(L.map fun x=>[f x])=ls at hA
 cases hA with
 |none=>have h0:=congrArg List.length hg;rw[List.length_map,List.length_nil]at h0;omega
 |own h1 h2 h3=>
  rename_i c m;subst hg;exact⟨c,m,by rw[List.length_map],by rw[Iq]⟩
theorem Acc.ofM{α:Type}(f:α→AV){c m:Nat}{L:List α}(hb:L.length≤1000000000):Acc 0 1 [(c,m,L.map f)] (.sl c m 0 L.length 1) (L.map fun x=>[f x]):=by
 have:=Acc.own (n0:=0) (z:=1) (c:=c) (m:=m) (ls:=L.map fun x=>[f x]) (Nat.zero_le _) (fun cs hc=>by obtain⟨x,_,rfl⟩:=List.mem_map.1 hc;rfl) (by rw[List.length_map];exact hb);rw[Iq,List.length_map]at this;exact this
theorem Qu.ly{α:Type}{f:α→AV}{h:Hp}{c m n:Nat}{L:List α}(r:Qu h c m (L.map f))(hn:L.length=n)(hb:L.length≤1000000000):Jg h [] 1 (L.map fun x=>[f x]) (.sl c m 0 n 1):=by
 subst hn;have:=Jg.own (X:=[]) (z:=1) (ls:=L.map fun x=>[f x]) (c:=c) (m:=m) (by rw[Iq];exact r) (fun cs hc=>by obtain⟨x,_,rfl⟩:=List.mem_map.1 hc;rfl) Qx (by rw[List.length_map];omega);rw[List.length_map]at this;exact this
section
variable {P:Program} {G:Env} {N:Nat} {h0:Hp} {n0:Nat} {X:List Nat} {st:St} {M:QP} {T:Tr AV} {ops rest:List Oper} {K:List (Nat×AV)} {R:Tr AV→St→Prop} {d:Nat} {t ty:TypeId} {pos:String} {af:Array Edge}
theorem CT{α:Type}(z:α): ∀n,XA n [z]=List.replicate n z
 |0=>rfl
 |n+1=>by rw[List.replicate_succ,←CT z n];show Yk [z] (XA n [z])=_;rw[JD];rfl
theorem Em{α:Type}(f:α→AV)(z:α){x:Operand}{n:Nat}{e:TypeId}(hK:QH K T)(hM:Mem h0 n0 X st M)(S:F8 P t e 1)(hz:zeroOf P e=some [f z])(hx:QG G K x=some (.int .i64 (n:Nat)))(hb:n≤1000000000)(hN:Nat.ble (d+1) N=true)
  (hn: ∀(c:Nat) T' st',QH ((d,.sl c 0 0 n 1)::K) T'→Mem h0 n0 X st' ((c,0,(List.replicate n z).map f)::M)→WR P G N ops rest R T' st'):WR P G N ops (⟨some d,.makeSlice t x x,ty,pos,af,none⟩::rest) R T st:=by
 refine WW (v:=.sl st.n 0 0 n 1) (st1:=⟨st.n+1,st.h.set st.n (.row false [(((List.replicate n z).map f).length,0,some ((List.replicate n z).map f))])⟩) hK (.of fun T hT c d ty pos af g=>?_) (Nat.le_of_ble_eq_true hN) fun T' hT'=>hn st.n T' _ hT' (hM.alloc _);show(ob (QN G T x) fun a=>ob (QN G T x) fun b=>Va P t a b st)=_;rw[hT.QN hx,Qg,Qg];unfold Va;have h1:Cu ((n:Nat):Int)=some n:=rfl;simp only[S.u,h1,Qg,S.s,Q7,hz,S.c];rw[show Nat.beq (UZ [f z]) 1=true from rfl,show Nat.ble 1 (UZ [f z])=true from rfl,Nat.ble_eq_true_of_le (Nat.le_refl n),Nat.ble_eq_true_of_le hb,Nat.ble_eq_true_of_le S.b];simp only[Q7,Uv,QE,CT,List.map_replicate]
end
end
end Go.Proofs.YtildagdnomiahaaGreatDoor
