/-
  Atoms: the program's machines, its automata of atoms.
-/
import Derived.Test.YtiknomepbklibaaGreatDoorQrMnd
set_option maxHeartbeats 8000000
set_option maxRecDepth 100000
set_option linter.unnecessarySimpa false
set_option linter.unusedSectionVars false
set_option linter.unusedSimpArgs false
set_option linter.unusedVariables false
section
namespace Go.Proofs.YtiknomepbklibaaGreatDoor
open Go Go.RowKit
variable {M:QP} {c c1 c3 m n0:Nat} {h0:Hp} {l:List AV} {st:St}

def Ha(st:St)(f:FuncId)(fc:List AV)(o:List Nat)(n:Nat):Prop:= ∀st1,Qt st st1→ ∀(s:Nat) (x y z:Bool),s<Qp o n→ ∃v st2,Ev Tryz.prog Q5 f ([]++([.int .i64 (s:Nat),.bool x,.bool y,.bool z]++fc)) st1 v st2∧v=.int .i64 (Jp o n s x y z)∧Qt st1 st2
def FZ(f:FuncId)(p:Bool→Bool→Bool→Bool):Prop:= ∀st1,Qj st1→ ∀x y z:Bool,∃v st2,Ev Tryz.prog Q5 f [.bool x,.bool y,.bool z] st1 v st2∧v=.bool (p x y z)∧Qt st1 st2
theorem BQ(f:Nat):KL (.fn f [] []) (.fn f [] [])=true:=by
 have h: ∀n:Nat,Nat.beq n n=true:=fun n=>by simp
 show Qo (Nat.beq f f) (Qo (Ah [] []) (Ah [] []) false) false=true;rw[h];rfl
theorem AK(f c:Nat):KL (.fn f [] [.ptr c 0 0]) (.fn f [] [.ptr c 0 0])=true:=by
 have h: ∀n:Nat,Nat.beq n n=true:=fun n=>by simp
 show Qo (Nat.beq f f) (Qo (Ah [] []) (Qo (Qo (Nat.beq c c) true false) true false) false) false=true;rw[h,h];rfl
theorem Q4.later{st1:St}(r:Q4 st.h.get c m l)(hf:Qj st)(q:Qt st st1):Q4 st1.h.get c m l:=r.frame (q.J8 c (r.lt hf))
theorem F5(n s:Nat)(x y z:Bool):Jp [115,105,110,103] n s x y z=(if x=false then((s:Nat):Int)else if s=0 then 1 else-1):=by
 unfold Jp;rw[if_neg QE,if_neg QE,if_neg QE,if_neg QE,if_neg QE,if_neg QE,if_pos rfl]
theorem WQ(n s:Nat)(x y z:Bool):Jp [102,108,97,103] n s x y z=(if s=1∨x=true then 1 else-1):=by
 unfold Jp;rw[if_neg QE,if_neg QE,if_neg QE,if_neg QE,if_neg QE,if_neg QE,if_neg QE,if_pos rfl]
theorem Yi(n s:Nat)(x y z:Bool):Jp [108,101,115,115] n s x y z=(if x=false∧y=false then((s:Nat):Int)else if s=0∧x=true∧y=false then 1 else if s=1∧y=true∧x=false then 2 else-1):=by
 unfold Jp;rw[if_neg QE,if_neg QE,if_neg QE,if_neg QE,if_neg QE,if_neg QE,if_neg QE,if_neg QE,if_pos rfl]
theorem JW(n s:Nat)(x y z:Bool):Jp [112,108,117,115] n s x y z=(if s=0∧x=true∧y=decide (n=0)then 1 else if(s=0∧x=false∧y=false)∨(s=n+1∧x=false∧y=false)then((s:Nat):Int)else if 0<s∧s<n+1∧x=false∧y=decide (s=n)then((s+1:Nat):Int)else-1):=by
 unfold Jp;rw[if_neg QE,if_neg QE,if_neg QE,if_neg QE,if_neg QE,if_neg QE,if_neg QE,if_neg QE,if_neg QE,if_pos rfl]
theorem Yb(n s:Nat)(x y z:Bool):Jp [110,117,109] n s x y z=(if s<n+1∧x=decide (s=n)then((s+1:Nat):Int)else if s=n+1∧x=false then((n+1:Nat):Int)else-1):=by
 unfold Jp;rw[if_neg QE,if_neg QE,if_neg QE,if_neg QE,if_neg QE,if_neg QE,if_neg QE,if_neg QE,if_neg QE,if_neg QE]
theorem Mem.XJ{X:List Nat}{st':St}(h:Mem h0 n0 X st M)(q:Qt st st')(r:Q4 st'.h.get c m l)(hc:st.n≤c):Mem h0 n0 X st' (M++[(c,m,l)]):=by
 have h1:=h.quiet q;refine⟨h1.fresh,h1.le,h1.base,fun c' m' l' hm=>?_,fun c' m' l' hm=>?_,fun c' m' l' hm=>?_,?_,h1.J8⟩
 ·rcases List.mem_append.1 hm with hm|hm
  ·exact h1.row c' m' l' hm
  ·have e:=List.mem_singleton.1 hm
   injection e with e1 e;injection e with e2 e3
   subst e1 e2 e3;exact r
 ·rcases List.mem_append.1 hm with hm|hm
  ·exact h1.lt c' m' l' hm
  ·have e:=List.mem_singleton.1 hm
   injection e with e1 e
   rw[e1];exact r.lt q.fresh
 ·rcases List.mem_append.1 hm with hm|hm
  ·exact h1.own c' m' l' hm
  ·have e:=List.mem_singleton.1 hm
   injection e with e1 e
   rw[e1];exact .inl (Nat.le_trans h.le hc)
 ·rw[List.map_append];refine List.nodup_append.2 ⟨h1.nodup,by simp,fun a ha b hb e=>?_⟩;subst e;obtain⟨⟨c',m',l'⟩,e1,e2⟩:=List.mem_map.1 ha
  have e3:a=c:=by simpa using hb
  have e2:c'=a:=e2;have:=h.lt c' m' l' e1;omega
theorem Mem.jk{k:Nat}(h:Mem h0 n0 [] st M)(hk:M[k]? =some (c,m,l)):n0≤c:=(h.own c m l (List.mem_of_getElem? hk)).resolve_right QA
theorem Mem.Pf{X:List Nat}{st':St}{c2 m2:Nat}{l2:List AV}(h:Mem h0 n0 X st M)(q:Qt st st')(r:Q4 st'.h.get c m l)(r2:Q4 st'.h.get c2 m2 l2)(hc:st.n≤c)(hc2:st.n≤c2)(hne:c≠c2):Mem h0 n0 X st' (M++[(c,m,l),(c2,m2,l2)]):=by
 have h1:=h.quiet q;have a1:=h.XJ q r hc;have a2:=h.XJ q r2 hc2;refine⟨h1.fresh,h1.le,h1.base,fun c' m' l' hm=>?_,fun c' m' l' hm=>?_,fun c' m' l' hm=>?_,?_,h1.J8⟩
 ·rcases List.mem_append.1 hm with hm|hm
  ·exact h1.row c' m' l' hm
  ·rcases List.mem_cons.1 hm with e|hm
   ·exact a1.row c' m' l' (by simp[e])
   ·exact a2.row c' m' l' (by simp at hm;simp[hm])
 ·rcases List.mem_append.1 hm with hm|hm
  ·exact h1.lt c' m' l' hm
  ·rcases List.mem_cons.1 hm with e|hm
   ·exact a1.lt c' m' l' (by simp[e])
   ·exact a2.lt c' m' l' (by simp at hm;simp[hm])
 ·rcases List.mem_append.1 hm with hm|hm
  ·exact h1.own c' m' l' hm
  ·rcases List.mem_cons.1 hm with e|hm
   ·exact a1.own c' m' l' (by simp[e])
   ·exact a2.own c' m' l' (by simp at hm;simp[hm])
 ·have b1:=a1.nodup;have b2:=a2.nodup;simp only[List.map_append,List.map_cons,List.map_nil]at b1 b2 ⊢;rw[List.nodup_append]at b1 b2 ⊢;refine⟨b1.1,by simp[hne],fun a ha b hb=>?_⟩;rcases List.mem_cons.1 hb with rfl|hb
  ·exact b1.2.2 a ha _ QA
  ·exact b2.2.2 a ha b hb
theorem Kl{o:List Nat}{a b g n m:Int}{l:List Cr}(ha:Wo o)(h:Jh (.mk o a b g n l) m=true)(hm:m≤6):l=[]∧ ∃an bn gn nn:Nat,a=an∧b=bn∧g=gn∧n=nn∧an≤6∧bn≤6∧gn≤6∧nn≤20:=by
 obtain⟨vn,bn,kn,hsh,hv0,hv3,hk,hn1,hn2,hn0,hvar,hex⟩:=CM h
 have hne:o≠[101,120]:=by rcases ha with rfl|rfl|rfl|rfl|rfl|rfl|rfl|rfl|rfl|rfl|rfl<;>simp
 rw[Jh]at h;simp only[Bool.and_eq_true,decide_eq_true_eq]at h
 have hl:(Uh o).2.1=0:=by rcases ha with rfl|rfl|rfl|rfl|rfl|rfl|rfl|rfl|rfl|rfl|rfl<;>decide
 have hl0:l.length=0:=by have:=h.2.1;omega
 have key: ∀i:Nat,i<3→0≤UU a b g i∧UU a b g i≤6:=fun i hi=>by
  obtain⟨h1,h2⟩:=hvar i hi
  by_cases hv:vn≤i
  ·have:=h1 hv;omega
  ·have:=h2 Qe hne;omega
 have k0:=key 0 Qe;have k1:=key 1 Qe;have k2:=key 2 Qe;simp only[UU]at k0 k1 k2;simp at k0 k1 k2;exact⟨List.eq_nil_of_length_eq_zero hl0,a.toNat,b.toNat,g.toNat,n.toNat,by omega,by omega,by omega,by omega,by omega,by omega,by omega,by omega⟩

theorem vV(hf:Qj st)(x y z:Bool): ∃v st',Ev Tryz.prog Q5 160 [.bool x,.bool y,.bool z] st v st'∧v=.bool true∧Qt st st':=by
 refine JI Tryz.func160 Tryz.ntmps160 fun T K=>?_;have M:=Mem.start hf;refine Qc 2 K M ?_;refine⟨congrArg AV.bool ?_,M.qt⟩;clear M K
 first|rfl|(cases x<;>cases y<;>cases z<;>simp_all)

theorem vU:FZ 160 fun x y z=>true:=fun st1 hf x y z=>vV hf x y z

theorem vT(hf:Qj st)(x y z:Bool): ∃v st',Ev Tryz.prog Q5 161 [.bool x,.bool y,.bool z] st v st'∧v=.bool (!x||y)∧Qt st st':=by
 refine JI Tryz.func161 Tryz.ntmps161 fun T K=>?_;have M:=Mem.start hf;refine Qc 3 K M ?_;intro _ K;refine oB K (Qg rfl) rfl fun b9 _ e9 K=>?_;cases b9
 ·replace e9:(x)=true:=by simpa using e9
  refine Qc 3 K M ?_;refine⟨congrArg AV.bool ?_,M.qt⟩;clear M K
  first|rfl|(cases x<;>cases y<;>cases z<;>simp_all)
 replace e9:(x)=false:=by simpa using e9
 refine Qc 3 K M ?_;refine⟨congrArg AV.bool ?_,M.qt⟩;clear M K
 first|rfl|(cases x<;>cases y<;>cases z<;>simp_all)

theorem vS:FZ 161 fun x y z=>(!x||y):=fun st1 hf x y z=>vT hf x y z

theorem vR(hf:Qj st)(x y z:Bool): ∃v st',Ev Tryz.prog Q5 162 [.bool x,.bool y,.bool z] st v st'∧v=.bool (!x)∧Qt st st':=by
 refine JI Tryz.func162 Tryz.ntmps162 fun T K=>?_;have M:=Mem.start hf;refine Qc 4 K M ?_;refine⟨congrArg AV.bool ?_,M.qt⟩;clear M K
 first|rfl|(cases x<;>cases y<;>cases z<;>simp_all)

theorem vQ:FZ 162 fun x y z=>(!x):=fun st1 hf x y z=>vR hf x y z

theorem vP(hf:Qj st)(x y z:Bool): ∃v st',Ev Tryz.prog Q5 163 [.bool x,.bool y,.bool z] st v st'∧v=.bool (z==(x||y))∧Qt st st':=by
 refine JI Tryz.func163 Tryz.ntmps163 fun T K=>?_;have M:=Mem.start hf;refine Qc 3 K M ?_;intro _ K;refine oB K (Qg rfl) rfl fun b9 _ e9 K=>?_;cases b9
 ·refine Qc 2 K M ?_;intro _ K;refine p1 K (ZZ Yq rfl rfl) fun _ K=>?_;refine Qc 1 K M ?_;refine⟨congrArg AV.bool ?_,M.qt⟩;clear M K
  first|rfl|(cases x<;>cases y<;>cases z<;>simp_all)
 refine Qc 2 K M ?_;intro _ K;refine p1 K (ZZ Yq rfl rfl) fun _ K=>?_;refine Qc 1 K M ?_;refine⟨congrArg AV.bool ?_,M.qt⟩;clear M K
 first|rfl|(cases x<;>cases y<;>cases z<;>simp_all)

theorem vO:FZ 163 fun x y z=>(z==(x||y)):=fun st1 hf x y z=>vP hf x y z

theorem vN(hf:Qj st)(x y z:Bool): ∃v st',Ev Tryz.prog Q5 164 [.bool x,.bool y,.bool z] st v st'∧v=.bool (z==(x&&y))∧Qt st st':=by
 refine JI Tryz.func164 Tryz.ntmps164 fun T K=>?_;have M:=Mem.start hf;refine Qc 3 K M ?_;intro _ K;refine oB K (Qg rfl) rfl fun b9 _ e9 K=>?_;cases b9
 ·refine Qc 2 K M ?_;intro _ K;refine p1 K (ZZ Yq rfl rfl) fun _ K=>?_;refine Qc 1 K M ?_;refine⟨congrArg AV.bool ?_,M.qt⟩;clear M K
  first|rfl|(cases x<;>cases y<;>cases z<;>simp_all)
 refine Qc 2 K M ?_;intro _ K;refine p1 K (ZZ Yq rfl rfl) fun _ K=>?_;refine Qc 1 K M ?_;refine⟨congrArg AV.bool ?_,M.qt⟩;clear M K
 first|rfl|(cases x<;>cases y<;>cases z<;>simp_all)

theorem vM:FZ 164 fun x y z=>(z==(x&&y)):=fun st1 hf x y z=>vN hf x y z

theorem vL(hf:Qj st)(x y z:Bool): ∃v st',Ev Tryz.prog Q5 165 [.bool x,.bool y,.bool z] st v st'∧v=.bool (z==(x&& !y))∧Qt st st':=by
 refine JI Tryz.func165 Tryz.ntmps165 fun T K=>?_;have M:=Mem.start hf;refine Qc 3 K M ?_;intro _ K;refine oB K (Qg rfl) rfl fun b9 _ e9 K=>?_;cases b9
 ·refine Qc 3 K M ?_;intro _ K;refine p1 K (ZZ Yq rfl rfl) fun _ K=>?_;refine Qc 1 K M ?_;refine⟨congrArg AV.bool ?_,M.qt⟩;clear M K
  first|rfl|(cases x<;>cases y<;>cases z<;>simp_all)
 refine Qc 3 K M ?_;intro _ K;refine p1 K (ZZ Yq rfl rfl) fun _ K=>?_;refine Qc 1 K M ?_;refine⟨congrArg AV.bool ?_,M.qt⟩;clear M K
 first|rfl|(cases x<;>cases y<;>cases z<;>simp_all)

theorem vK:FZ 165 fun x y z=>(z==(x&& !y)):=fun st1 hf x y z=>vL hf x y z

theorem Wy(hf:Qj st){g:FuncId}{p:Bool→Bool→Bool→Bool}(hr:Q4 st.h.get c1 0 [.fn g [] []])(hg:FZ g p)(s:Int)(x y z:Bool): ∃v st',Ev Tryz.prog Q5 174 [iZ s,.bool x,.bool y,.bool z,.ptr c1 0 0] st v st'∧v=iZ (if p x y z=true then 0 else-1)∧Qt st st':=by
 refine JI Tryz.func174 Tryz.ntmps174 fun T K=>?_;have M:=Mem.start hf;refine Qc 1 K M ?_;intro _ K;refine p1 K (Qd rfl (Q0 (M.JK QA hr.Jf) (Qf Xs rfl))) fun _ K=>?_;refine Qc 3 K M ?_;intro _ K;obtain⟨v14,st14,ev14,rfl,q14⟩:=hg _ M.fresh x y z;refine p1 K (Xa rfl rfl ev14) fun _ K=>?_;replace M:=M.quiet q14;refine Uo ?_;show W _ _ _ _ _ _ _;refine Qq (K.QJ rfl) (fun h14=>?_) (fun h14=>?_)
 ·have hb14:=h14;refine Qc 1 K M ?_;refine⟨congrArg (AV.int .i64) ?_,M.qt⟩
  first|(rw[if_pos (by assumption)];done)|(rw[if_neg (by simp_all)];done)
 have hb14:=h14;refine Qc 1 K M ?_;refine⟨congrArg (AV.int .i64) ?_,M.qt⟩
 first|(rw[if_pos (by assumption)];done)|(rw[if_neg (by simp_all)];done)

theorem AB(hf:Qj st)(g:FuncId): ∃v st',Ev Tryz.prog Q5 159 [(.fn g [] [])] st v st'∧ ∃c1,v=.agg [.fn 174 [] [.ptr c1 0 0],iZ 0,iZ 1]∧Q4 st'.h.get c1 0 [.fn g [] []]∧st.n≤c1∧Qt st st':=by
 refine JI Tryz.func159 Tryz.ntmps159 fun T K=>?_;have M:=Mem.start hf;refine au 2 K M ?_;intro c1 c2 _ _ K _ M;refine p1 K (X4 rfl rfl) fun _ K=>?_;refine au 2 K M ?_;intro _ _ K _ M;refine Qc 0 K M ?_;exact⟨c1,rfl,M.UY (k:=1) rfl,M.jk (k:=1) rfl,M.qt⟩

theorem CK(hf:Qj st)(n s:Nat)(y:Bool)(z:Bool)(hs:s<2): ∃v st',Ev Tryz.prog Q5 166 [iN s,.bool true,.bool y,.bool z] st v st'∧v=iZ (Jp [115,105,110,103] n s true y z)∧Qt st st':=by
 refine JI Tryz.func166 Tryz.ntmps166 fun T K=>?_;have M:=Mem.start hf;refine Qc 8 K M ?_;intro _ K;refine JS K rfl (fun h13=>?_) fun h13=>?_
 ·refine Qc 1 K M ?_;refine⟨congrArg (AV.int .i64) ?_,M.qt⟩;clear M K;rw[F5]
  first|(simp_all;done)|(simp_all;omega)|(repeat' split)<;>first|(simp_all;done)|(simp_all;omega)|omega
 refine Qc 1 K M ?_;refine⟨congrArg (AV.int .i64) ?_,M.qt⟩;clear M K;rw[F5]
 first|(simp_all;done)|(simp_all;omega)|(repeat' split)<;>first|(simp_all;done)|(simp_all;omega)|omega

theorem CL(hf:Qj st)(n s:Nat)(y:Bool)(z:Bool)(hs:s<2): ∃v st',Ev Tryz.prog Q5 166 [iN s,.bool false,.bool y,.bool z] st v st'∧v=iZ (Jp [115,105,110,103] n s false y z)∧Qt st st':=by
 refine JI Tryz.func166 Tryz.ntmps166 fun T K=>?_;have M:=Mem.start hf;refine Qc 7 K M ?_;refine⟨congrArg (AV.int .i64) ?_,M.qt⟩;clear M K;rw[F5]
 first|(simp_all;done)|(simp_all;omega)|(repeat' split)<;>first|(simp_all;done)|(simp_all;omega)|omega

theorem TI(hf:Qj st)(n s:Nat)(x y z:Bool)(hs:s<2): ∃v st',Ev Tryz.prog Q5 166 [.int .i64 (s:Nat),.bool x,.bool y,.bool z] st v st'∧v=.int .i64 (Jp [115,105,110,103] n s x y z)∧Qt st st':=by
 cases x
 ·exact CL hf n s y z hs
 ·exact CK hf n s y z hs

theorem R2(hf:Qj st)(n s:Nat)(y:Bool)(z:Bool)(hs:s<2): ∃v st',Ev Tryz.prog Q5 167 [iN s,.bool true,.bool y,.bool z] st v st'∧v=iZ (Jp [102,108,97,103] n s true y z)∧Qt st st':=by
 refine JI Tryz.func167 Tryz.ntmps167 fun T K=>?_;have M:=Mem.start hf;refine Qc 3 K M ?_;intro _ K;refine Un K (Qg rfl) rfl (fun _ e11 K=>?_) fun _ e11 K=>?_
 ·refine Qc 4 K M ?_;refine⟨congrArg (AV.int .i64) ?_,M.qt⟩;clear M K;rw[WQ]
  first|(simp_all;done)|(simp_all;omega)|(repeat' split)<;>first|(simp_all;done)|(simp_all;omega)|omega
 refine Qc 4 K M ?_;refine⟨congrArg (AV.int .i64) ?_,M.qt⟩;clear M K;rw[WQ]
 first|(simp_all;done)|(simp_all;omega)|(repeat' split)<;>first|(simp_all;done)|(simp_all;omega)|omega

theorem R3(hf:Qj st)(n s:Nat)(y:Bool)(z:Bool)(hs:s<2): ∃v st',Ev Tryz.prog Q5 167 [iN s,.bool false,.bool y,.bool z] st v st'∧v=iZ (Jp [102,108,97,103] n s false y z)∧Qt st st':=by
 refine JI Tryz.func167 Tryz.ntmps167 fun T K=>?_;have M:=Mem.start hf;refine Qc 3 K M ?_;intro _ K;refine Un K (Qg rfl) rfl (fun _ e11 K=>?_) fun _ e11 K=>?_
 ·refine Qc 4 K M ?_;refine⟨congrArg (AV.int .i64) ?_,M.qt⟩;clear M K;rw[WQ]
  first|(simp_all;done)|(simp_all;omega)|(repeat' split)<;>first|(simp_all;done)|(simp_all;omega)|omega
 refine Qc 4 K M ?_;refine⟨congrArg (AV.int .i64) ?_,M.qt⟩;clear M K;rw[WQ]
 first|(simp_all;done)|(simp_all;omega)|(repeat' split)<;>first|(simp_all;done)|(simp_all;omega)|omega

theorem ux(hf:Qj st)(n s:Nat)(x y z:Bool)(hs:s<2): ∃v st',Ev Tryz.prog Q5 167 [.int .i64 (s:Nat),.bool x,.bool y,.bool z] st v st'∧v=.int .i64 (Jp [102,108,97,103] n s x y z)∧Qt st st':=by
 cases x
 ·exact R3 hf n s y z hs
 ·exact R2 hf n s y z hs

theorem D0(hf:Qj st)(n s:Nat)(z:Bool)(hs:s<3): ∃v st',Ev Tryz.prog Q5 168 [iN s,.bool true,.bool true,.bool z] st v st'∧v=iZ (Jp [108,101,115,115] n s true true z)∧Qt st st':=by
 refine JI Tryz.func168 Tryz.ntmps168 fun T K=>?_;have M:=Mem.start hf;refine Qc 11 K M ?_;intro _ K;refine Un K (Qg rfl) rfl (fun _ e20 K=>?_) fun _ e20 K=>?_
 ·refine Qc 10 K M ?_;intro _ K;refine Un K (Qg rfl) rfl (fun _ e30 K=>?_) fun _ e30 K=>?_
  ·refine Qc 9 K M ?_;refine⟨congrArg (AV.int .i64) ?_,M.qt⟩;clear M K;rw[Yi]
   first|(simp_all;done)|(simp_all;omega)|(repeat' split)<;>first|(simp_all;done)|(simp_all;omega)|omega
  refine Qc 9 K M ?_;refine⟨congrArg (AV.int .i64) ?_,M.qt⟩;clear M K;rw[Yi]
  first|(simp_all;done)|(simp_all;omega)|(repeat' split)<;>first|(simp_all;done)|(simp_all;omega)|omega
 refine Qc 10 K M ?_;intro _ K;refine Un K (Qg rfl) rfl (fun _ e30 K=>?_) fun _ e30 K=>?_
 ·refine Qc 9 K M ?_;refine⟨congrArg (AV.int .i64) ?_,M.qt⟩;clear M K;rw[Yi]
  first|(simp_all;done)|(simp_all;omega)|(repeat' split)<;>first|(simp_all;done)|(simp_all;omega)|omega
 exact XP

theorem D1(hf:Qj st)(n s:Nat)(z:Bool)(hs:s<3): ∃v st',Ev Tryz.prog Q5 168 [iN s,.bool true,.bool false,.bool z] st v st'∧v=iZ (Jp [108,101,115,115] n s true false z)∧Qt st st':=by
 refine JI Tryz.func168 Tryz.ntmps168 fun T K=>?_;have M:=Mem.start hf;refine Qc 11 K M ?_;intro _ K;refine Un K (Qg rfl) rfl (fun _ e20 K=>?_) fun _ e20 K=>?_
 ·refine Qc 10 K M ?_;intro _ K;refine Un K (Qg rfl) rfl (fun _ e30 K=>?_) fun _ e30 K=>?_
  ·refine Qc 9 K M ?_;refine⟨congrArg (AV.int .i64) ?_,M.qt⟩;clear M K;rw[Yi]
   first|(simp_all;done)|(simp_all;omega)|(repeat' split)<;>first|(simp_all;done)|(simp_all;omega)|omega
  refine Qc 9 K M ?_;refine⟨congrArg (AV.int .i64) ?_,M.qt⟩;clear M K;rw[Yi]
  first|(simp_all;done)|(simp_all;omega)|(repeat' split)<;>first|(simp_all;done)|(simp_all;omega)|omega
 refine Qc 9 K M ?_;refine⟨congrArg (AV.int .i64) ?_,M.qt⟩;clear M K;rw[Yi]
 first|(simp_all;done)|(simp_all;omega)|(repeat' split)<;>first|(simp_all;done)|(simp_all;omega)|omega

theorem D2(hf:Qj st)(n s:Nat)(z:Bool)(hs:s<3): ∃v st',Ev Tryz.prog Q5 168 [iN s,.bool false,.bool true,.bool z] st v st'∧v=iZ (Jp [108,101,115,115] n s false true z)∧Qt st st':=by
 refine JI Tryz.func168 Tryz.ntmps168 fun T K=>?_;have M:=Mem.start hf;refine Qc 11 K M ?_;intro _ K;refine Un K (Qg rfl) rfl (fun _ e20 K=>?_) fun _ e20 K=>?_
 ·refine Qc 10 K M ?_;intro _ K;refine Un K (Qg rfl) rfl (fun _ e30 K=>?_) fun _ e30 K=>?_
  ·refine Qc 9 K M ?_;refine⟨congrArg (AV.int .i64) ?_,M.qt⟩;clear M K;rw[Yi]
   first|(simp_all;done)|(simp_all;omega)|(repeat' split)<;>first|(simp_all;done)|(simp_all;omega)|omega
  refine Qc 9 K M ?_;refine⟨congrArg (AV.int .i64) ?_,M.qt⟩;clear M K;rw[Yi]
  first|(simp_all;done)|(simp_all;omega)|(repeat' split)<;>first|(simp_all;done)|(simp_all;omega)|omega
 refine Qc 10 K M ?_;intro _ K;refine Un K (Qg rfl) rfl (fun _ e30 K=>?_) fun _ e30 K=>?_
 ·refine Qc 9 K M ?_;refine⟨congrArg (AV.int .i64) ?_,M.qt⟩;clear M K;rw[Yi]
  first|(simp_all;done)|(simp_all;omega)|(repeat' split)<;>first|(simp_all;done)|(simp_all;omega)|omega
 exact XP

theorem D3(hf:Qj st)(n s:Nat)(z:Bool)(hs:s<3): ∃v st',Ev Tryz.prog Q5 168 [iN s,.bool false,.bool false,.bool z] st v st'∧v=iZ (Jp [108,101,115,115] n s false false z)∧Qt st st':=by
 refine JI Tryz.func168 Tryz.ntmps168 fun T K=>?_;have M:=Mem.start hf;refine Qc 11 K M ?_;refine⟨congrArg (AV.int .i64) ?_,M.qt⟩;clear M K;rw[Yi]
 first|(simp_all;done)|(simp_all;omega)|(repeat' split)<;>first|(simp_all;done)|(simp_all;omega)|omega

theorem jU(hf:Qj st)(n s:Nat)(x y z:Bool)(hs:s<3): ∃v st',Ev Tryz.prog Q5 168 [.int .i64 (s:Nat),.bool x,.bool y,.bool z] st v st'∧v=.int .i64 (Jp [108,101,115,115] n s x y z)∧Qt st st':=by
 cases x
 ·cases y
  ·exact D3 hf n s z hs
  ·exact D2 hf n s z hs
 ·cases y
  ·exact D1 hf n s z hs
  ·exact D0 hf n s z hs

theorem NI(hf:Qj st)(n s:Nat)(z:Bool)(hs:s<n+2)(hn:n≤20)(h1:Q4 st.h.get c1 0 [iN n])(h3:Q4 st.h.get c3 0 [iZ (n+1:Nat)]): ∃v st',Ev Tryz.prog Q5 175 [iN s,.bool true,.bool true,.bool z,.ptr c1 0 0,.ptr c3 0 0] st v st'∧v=iZ (Jp [112,108,117,115] n s true true z)∧Qt st st':=by
 refine JI Tryz.func175 Tryz.ntmps175 fun T K=>?_;have M:=Mem.start hf;refine Qc 3 K M ?_;intro _ K;refine Un K (Qg rfl) rfl (fun _ e14 K=>?_) fun _ e14 K=>?_
 ·refine Qc 12 K M ?_;intro _ K;refine Un K (Qg rfl) rfl (fun _ e26 K=>?_) fun _ e26 K=>?_
  ·refine Qc 10 K M ?_;intro _ K;refine p1 K (Qd rfl (Q0 (M.JK QA h3.Jf) (Qf Qr rfl))) fun _ K=>?_;refine Qc 1 K M ?_;intro _ K;refine Un K (Qg rfl) rfl (fun _ e37 K=>?_) fun _ e37 K=>?_
   ·refine Qc 11 K M ?_;intro _ K;refine Un K (Qg rfl) rfl (fun _ e49 K=>?_) fun _ e49 K=>?_
    ·exact XP
    refine Qc 1 K M ?_;intro _ K;refine pg K rfl rfl (Qd rfl (Q0 (M.JK QA h3.Jf) (Qf Qr rfl))) fun _ K=>?_;refine Qc 2 K M ?_;intro _ K;refine Un K (Qg rfl) rfl (fun _ e54 K=>?_) fun _ e54 K=>?_
    ·exact XP
    refine Qc 13 K M ?_;refine⟨congrArg (AV.int .i64) ?_,M.qt⟩;clear M K;rw[JW]
    first|(simp_all;done)|(simp_all;omega)|(repeat' split)<;>first|(simp_all;done)|(simp_all;omega)|omega
   refine Qc 11 K M ?_;intro _ K;refine Un K (Qg rfl) rfl (fun _ e49 K=>?_) fun _ e49 K=>?_
   ·exact XP
   refine Qc 1 K M ?_;intro _ K;refine pg K rfl rfl (Qd rfl (Q0 (M.JK QA h3.Jf) (Qf Qr rfl))) fun _ K=>?_;refine Qc 2 K M ?_;intro _ K;refine Un K (Qg rfl) rfl (fun _ e54 K=>?_) fun _ e54 K=>?_
   ·refine Qc 13 K M ?_;refine⟨congrArg (AV.int .i64) ?_,M.qt⟩;clear M K;rw[JW]
    first|(simp_all;done)|(simp_all;omega)|(repeat' split)<;>first|(simp_all;done)|(simp_all;omega)|omega
   exact XP
  exact XP
 refine Qc 4 K M ?_;intro _ K;refine pg K rfl rfl (Qd rfl (Q0 (M.JK QA h1.Jf) (Qf Qr rfl))) fun _ K=>?_;refine Qc 1 K M ?_;intro _ K;refine pg K rfl rfl (ZZ Yq rfl rfl) fun _ K=>?_;refine Qc 2 K M ?_;intro _ K;refine Qq (K.QJ rfl) (fun h11=>?_) (fun h11=>?_)
 ·have hb11:=h11;refine Qc 1 K M ?_;refine⟨congrArg (AV.int .i64) ?_,M.qt⟩;clear M K;rw[JW]
  first|(simp_all;done)|(simp_all;omega)|(repeat' split)<;>first|(simp_all;done)|(simp_all;omega)|omega
 have hb11:=h11;refine Qc 2 K M ?_;intro _ K;refine Un K (Qg rfl) rfl (fun _ e26 K=>?_) fun _ e26 K=>?_
 ·exact XP
 refine Qc 10 K M ?_;intro _ K;refine p1 K (Qd rfl (Q0 (M.JK QA h3.Jf) (Qf Qr rfl))) fun _ K=>?_;refine Qc 1 K M ?_;intro _ K;refine Un K (Qg rfl) rfl (fun _ e37 K=>?_) fun _ e37 K=>?_
 ·refine Qc 11 K M ?_;intro _ K;refine Un K (Qg rfl) rfl (fun _ e49 K=>?_) fun _ e49 K=>?_
  ·refine Qc 18 K M ?_;refine⟨congrArg (AV.int .i64) ?_,M.qt⟩;clear M K;rw[JW]
   first|(simp_all;done)|(simp_all;omega)|(repeat' split)<;>first|(simp_all;done)|(simp_all;omega)|omega
  exact XP
 exact XP

theorem NJ(hf:Qj st)(n s:Nat)(z:Bool)(hs:s<n+2)(hn:n≤20)(h1:Q4 st.h.get c1 0 [iN n])(h3:Q4 st.h.get c3 0 [iZ (n+1:Nat)]): ∃v st',Ev Tryz.prog Q5 175 [iN s,.bool true,.bool false,.bool z,.ptr c1 0 0,.ptr c3 0 0] st v st'∧v=iZ (Jp [112,108,117,115] n s true false z)∧Qt st st':=by
 refine JI Tryz.func175 Tryz.ntmps175 fun T K=>?_;have M:=Mem.start hf;refine Qc 3 K M ?_;intro _ K;refine Un K (Qg rfl) rfl (fun _ e14 K=>?_) fun _ e14 K=>?_
 ·refine Qc 12 K M ?_;intro _ K;refine Un K (Qg rfl) rfl (fun _ e26 K=>?_) fun _ e26 K=>?_
  ·refine Qc 10 K M ?_;intro _ K;refine p1 K (Qd rfl (Q0 (M.JK QA h3.Jf) (Qf Qr rfl))) fun _ K=>?_;refine Qc 1 K M ?_;intro _ K;refine Un K (Qg rfl) rfl (fun _ e37 K=>?_) fun _ e37 K=>?_
   ·refine Qc 11 K M ?_;intro _ K;refine Un K (Qg rfl) rfl (fun _ e49 K=>?_) fun _ e49 K=>?_
    ·exact XP
    refine Qc 1 K M ?_;intro _ K;refine pg K rfl rfl (Qd rfl (Q0 (M.JK QA h3.Jf) (Qf Qr rfl))) fun _ K=>?_;refine Qc 2 K M ?_;intro _ K;refine Un K (Qg rfl) rfl (fun _ e54 K=>?_) fun _ e54 K=>?_
    ·exact XP
    refine Qc 13 K M ?_;refine⟨congrArg (AV.int .i64) ?_,M.qt⟩;clear M K;rw[JW]
    first|(simp_all;done)|(simp_all;omega)|(repeat' split)<;>first|(simp_all;done)|(simp_all;omega)|omega
   refine Qc 11 K M ?_;intro _ K;refine Un K (Qg rfl) rfl (fun _ e49 K=>?_) fun _ e49 K=>?_
   ·exact XP
   refine Qc 1 K M ?_;intro _ K;refine pg K rfl rfl (Qd rfl (Q0 (M.JK QA h3.Jf) (Qf Qr rfl))) fun _ K=>?_;refine Qc 2 K M ?_;intro _ K;refine Un K (Qg rfl) rfl (fun _ e54 K=>?_) fun _ e54 K=>?_
   ·refine Qc 13 K M ?_;refine⟨congrArg (AV.int .i64) ?_,M.qt⟩;clear M K;rw[JW]
    first|(simp_all;done)|(simp_all;omega)|(repeat' split)<;>first|(simp_all;done)|(simp_all;omega)|omega
   exact XP
  exact XP
 refine Qc 4 K M ?_;intro _ K;refine pg K rfl rfl (Qd rfl (Q0 (M.JK QA h1.Jf) (Qf Qr rfl))) fun _ K=>?_;refine Qc 1 K M ?_;intro _ K;refine pg K rfl rfl (ZZ Yq rfl rfl) fun _ K=>?_;refine Qc 2 K M ?_;intro _ K;refine Qq (K.QJ rfl) (fun h11=>?_) (fun h11=>?_)
 ·have hb11:=h11;refine Qc 1 K M ?_;refine⟨congrArg (AV.int .i64) ?_,M.qt⟩;clear M K;rw[JW]
  first|(simp_all;done)|(simp_all;omega)|(repeat' split)<;>first|(simp_all;done)|(simp_all;omega)|omega
 have hb11:=h11;refine Qc 2 K M ?_;intro _ K;refine Un K (Qg rfl) rfl (fun _ e26 K=>?_) fun _ e26 K=>?_
 ·exact XP
 refine Qc 10 K M ?_;intro _ K;refine p1 K (Qd rfl (Q0 (M.JK QA h3.Jf) (Qf Qr rfl))) fun _ K=>?_;refine Qc 1 K M ?_;intro _ K;refine Un K (Qg rfl) rfl (fun _ e37 K=>?_) fun _ e37 K=>?_
 ·refine Qc 11 K M ?_;intro _ K;refine Un K (Qg rfl) rfl (fun _ e49 K=>?_) fun _ e49 K=>?_
  ·refine Qc 18 K M ?_;refine⟨congrArg (AV.int .i64) ?_,M.qt⟩;clear M K;rw[JW]
   first|(simp_all;done)|(simp_all;omega)|(repeat' split)<;>first|(simp_all;done)|(simp_all;omega)|omega
  exact XP
 exact XP

theorem NK(hf:Qj st)(n s:Nat)(z:Bool)(hs:s<n+2)(hn:n≤20)(h1:Q4 st.h.get c1 0 [iN n])(h3:Q4 st.h.get c3 0 [iZ (n+1:Nat)]): ∃v st',Ev Tryz.prog Q5 175 [iN s,.bool false,.bool true,.bool z,.ptr c1 0 0,.ptr c3 0 0] st v st'∧v=iZ (Jp [112,108,117,115] n s false true z)∧Qt st st':=by
 refine JI Tryz.func175 Tryz.ntmps175 fun T K=>?_;have M:=Mem.start hf;refine Qc 3 K M ?_;intro _ K;refine Un K (Qg rfl) rfl (fun _ e14 K=>?_) fun _ e14 K=>?_
 ·refine Qc 12 K M ?_;intro _ K;refine Un K (Qg rfl) rfl (fun _ e26 K=>?_) fun _ e26 K=>?_
  ·refine Qc 10 K M ?_;intro _ K;refine p1 K (Qd rfl (Q0 (M.JK QA h3.Jf) (Qf Qr rfl))) fun _ K=>?_;refine Qc 1 K M ?_;intro _ K;refine Un K (Qg rfl) rfl (fun _ e37 K=>?_) fun _ e37 K=>?_
   ·refine Qc 11 K M ?_;intro _ K;refine Un K (Qg rfl) rfl (fun _ e49 K=>?_) fun _ e49 K=>?_
    ·exact XP
    refine Qc 1 K M ?_;intro _ K;refine pg K rfl rfl (Qd rfl (Q0 (M.JK QA h3.Jf) (Qf Qr rfl))) fun _ K=>?_;refine Qc 2 K M ?_;intro _ K;refine Un K (Qg rfl) rfl (fun _ e54 K=>?_) fun _ e54 K=>?_
    ·exact XP
    refine Qc 6 K M ?_;intro _ K;refine pg K rfl rfl (Qd rfl (Q0 (M.JK QA h1.Jf) (Qf Qr rfl))) fun _ K=>?_;refine Qc 1 K M ?_;intro _ K;refine pg K rfl rfl (ZZ Yq rfl rfl) fun _ K=>?_;refine Qc 2 K M ?_;intro _ K;refine Qq (K.QJ rfl) (fun h46=>?_) (fun h46=>?_)
    ·have hb46:=h46;refine Qc 3 K M ?_;refine⟨congrArg (AV.int .i64) ?_,M.qt⟩;clear M K;rw[JW]
     first|(simp_all;done)|(simp_all;omega)|(repeat' split)<;>first|(simp_all;done)|(simp_all;omega)|omega
    have hb46:=h46;refine Qc 1 K M ?_;refine⟨congrArg (AV.int .i64) ?_,M.qt⟩;clear M K;rw[JW]
    first|(simp_all;done)|(simp_all;omega)|(repeat' split)<;>first|(simp_all;done)|(simp_all;omega)|omega
   refine Qc 11 K M ?_;intro _ K;refine Un K (Qg rfl) rfl (fun _ e49 K=>?_) fun _ e49 K=>?_
   ·exact XP
   refine Qc 1 K M ?_;intro _ K;refine pg K rfl rfl (Qd rfl (Q0 (M.JK QA h3.Jf) (Qf Qr rfl))) fun _ K=>?_;refine Qc 2 K M ?_;intro _ K;refine Un K (Qg rfl) rfl (fun _ e54 K=>?_) fun _ e54 K=>?_
   ·refine Qc 13 K M ?_;refine⟨congrArg (AV.int .i64) ?_,M.qt⟩;clear M K;rw[JW]
    first|(simp_all;done)|(simp_all;omega)|(repeat' split)<;>first|(simp_all;done)|(simp_all;omega)|omega
   exact XP
  exact XP
 refine Qc 12 K M ?_;intro _ K;refine Un K (Qg rfl) rfl (fun _ e26 K=>?_) fun _ e26 K=>?_
 ·exact XP
 refine Qc 10 K M ?_;intro _ K;refine p1 K (Qd rfl (Q0 (M.JK QA h3.Jf) (Qf Qr rfl))) fun _ K=>?_;refine Qc 1 K M ?_;intro _ K;refine Un K (Qg rfl) rfl (fun _ e37 K=>?_) fun _ e37 K=>?_
 ·refine Qc 11 K M ?_;intro _ K;refine Un K (Qg rfl) rfl (fun _ e49 K=>?_) fun _ e49 K=>?_
  ·refine Qc 18 K M ?_;refine⟨congrArg (AV.int .i64) ?_,M.qt⟩;clear M K;rw[JW]
   first|(simp_all;done)|(simp_all;omega)|(repeat' split)<;>first|(simp_all;done)|(simp_all;omega)|omega
  exact XP
 exact XP

theorem NL(hf:Qj st)(n s:Nat)(z:Bool)(hs:s<n+2)(hn:n≤20)(h1:Q4 st.h.get c1 0 [iN n])(h3:Q4 st.h.get c3 0 [iZ (n+1:Nat)]): ∃v st',Ev Tryz.prog Q5 175 [iN s,.bool false,.bool false,.bool z,.ptr c1 0 0,.ptr c3 0 0] st v st'∧v=iZ (Jp [112,108,117,115] n s false false z)∧Qt st st':=by
 refine JI Tryz.func175 Tryz.ntmps175 fun T K=>?_;have M:=Mem.start hf;refine Qc 3 K M ?_;intro _ K;refine Un K (Qg rfl) rfl (fun _ e14 K=>?_) fun _ e14 K=>?_
 ·refine Qc 12 K M ?_;intro _ K;refine Un K (Qg rfl) rfl (fun _ e26 K=>?_) fun _ e26 K=>?_
  ·refine Qc 10 K M ?_;intro _ K;refine p1 K (Qd rfl (Q0 (M.JK QA h3.Jf) (Qf Qr rfl))) fun _ K=>?_;refine Qc 1 K M ?_;intro _ K;refine Un K (Qg rfl) rfl (fun _ e37 K=>?_) fun _ e37 K=>?_
   ·refine Qc 11 K M ?_;intro _ K;refine Un K (Qg rfl) rfl (fun _ e49 K=>?_) fun _ e49 K=>?_
    ·exact XP
    refine Qc 1 K M ?_;intro _ K;refine pg K rfl rfl (Qd rfl (Q0 (M.JK QA h3.Jf) (Qf Qr rfl))) fun _ K=>?_;refine Qc 2 K M ?_;intro _ K;refine Un K (Qg rfl) rfl (fun _ e54 K=>?_) fun _ e54 K=>?_
    ·exact XP
    refine Qc 6 K M ?_;intro _ K;refine pg K rfl rfl (Qd rfl (Q0 (M.JK QA h1.Jf) (Qf Qr rfl))) fun _ K=>?_;refine Qc 1 K M ?_;intro _ K;refine pg K rfl rfl (ZZ Yq rfl rfl) fun _ K=>?_;refine Qc 2 K M ?_;intro _ K;refine Qq (K.QJ rfl) (fun h46=>?_) (fun h46=>?_)
    ·have hb46:=h46;refine Qc 3 K M ?_;refine⟨congrArg (AV.int .i64) ?_,M.qt⟩;clear M K;rw[JW]
     first|(simp_all;done)|(simp_all;omega)|(repeat' split)<;>first|(simp_all;done)|(simp_all;omega)|omega
    have hb46:=h46;refine Qc 1 K M ?_;refine⟨congrArg (AV.int .i64) ?_,M.qt⟩;clear M K;rw[JW]
    first|(simp_all;done)|(simp_all;omega)|(repeat' split)<;>first|(simp_all;done)|(simp_all;omega)|omega
   refine Qc 11 K M ?_;refine⟨congrArg (AV.int .i64) ?_,M.qt⟩;clear M K;rw[JW]
   first|(simp_all;done)|(simp_all;omega)|(repeat' split)<;>first|(simp_all;done)|(simp_all;omega)|omega
  exact XP
 refine Qc 12 K M ?_;intro _ K;refine Un K (Qg rfl) rfl (fun _ e26 K=>?_) fun _ e26 K=>?_
 ·exact XP
 refine Qc 12 K M ?_;refine⟨congrArg (AV.int .i64) ?_,M.qt⟩;clear M K;rw[JW]
 first|(simp_all;done)|(simp_all;omega)|(repeat' split)<;>first|(simp_all;done)|(simp_all;omega)|omega

theorem DU(hf:Qj st)(n s:Nat)(x y z:Bool)(hs:s<n+2)(hn:n≤20)(h1:Q4 st.h.get c1 0 [.int .i64 (n:Nat)])(h3:Q4 st.h.get c3 0 [.int .i64 (n+1:Nat)]): ∃v st',Ev Tryz.prog Q5 175 [.int .i64 (s:Nat),.bool x,.bool y,.bool z,.ptr c1 0 0,.ptr c3 0 0] st v st'∧v=.int .i64 (Jp [112,108,117,115] n s x y z)∧Qt st st':=by
 cases x
 ·cases y
  ·exact NL hf n s z hs hn h1 h3
  ·exact NK hf n s z hs hn h1 h3
 ·cases y
  ·exact NJ hf n s z hs hn h1 h3
  ·exact NI hf n s z hs hn h1 h3

theorem Oq(hf:Qj st)(n s:Nat)(z:Bool)(hs:s<n+2)(hn:n≤20)(h1:Q4 st.h.get c1 0 [iN n])(h3:Q4 st.h.get c3 0 [iZ (n+1:Nat)]): ∃v st',Ev Tryz.prog Q5 176 [iN s,.bool true,.bool true,.bool z,.ptr c3 0 0,.ptr c1 0 0] st v st'∧v=iZ (Jp [110,117,109] n s true true z)∧Qt st st':=by
 refine JI Tryz.func176 Tryz.ntmps176 fun T K=>?_;have M:=Mem.start hf;refine Qc 2 K M ?_;intro _ K;refine p1 K (Qd rfl (Q0 (M.JK QA h3.Jf) (Qf Qr rfl))) fun _ K=>?_;refine Qc 1 K M ?_;intro _ K;refine Un K (Qg rfl) rfl (fun _ e15 K=>?_) fun _ e15 K=>?_
 ·refine Qc 9 K M ?_;intro _ K;refine p1 K (Qd rfl (Q0 (M.JK QA h3.Jf) (Qf Qr rfl))) fun _ K=>?_;refine Qc 1 K M ?_;intro _ K;refine Un K (Qg rfl) rfl (fun _ e28 K=>?_) fun _ e28 K=>?_
  ·exact XP
  refine Qc 6 K M ?_;refine⟨congrArg (AV.int .i64) ?_,M.qt⟩;clear M K;rw[Yb]
  first|(simp_all;done)|(simp_all;omega)|(repeat' split)<;>first|(simp_all;done)|(simp_all;omega)|omega
 refine Qc 2 K M ?_;intro _ K;refine pg K rfl rfl (Qd rfl (Q0 (M.JK QA h1.Jf) (Qf Qr rfl))) fun _ K=>?_;refine Qc 1 K M ?_;intro _ K;refine pg K rfl rfl (ZZ Yq rfl rfl) fun _ K=>?_;refine Qc 2 K M ?_;intro _ K;refine Qq (K.QJ rfl) (fun h11=>?_) (fun h11=>?_)
 ·have hb11:=h11;refine Qc 3 K M ?_;refine⟨congrArg (AV.int .i64) ?_,M.qt⟩;clear M K;rw[Yb]
  first|(simp_all;done)|(simp_all;omega)|(repeat' split)<;>first|(simp_all;done)|(simp_all;omega)|omega
 have hb11:=h11;refine Qc 1 K M ?_;intro _ K;refine p1 K (Qd rfl (Q0 (M.JK QA h3.Jf) (Qf Qr rfl))) fun _ K=>?_;refine Qc 1 K M ?_;intro _ K;refine Un K (Qg rfl) rfl (fun _ e28 K=>?_) fun _ e28 K=>?_
 ·refine Qc 6 K M ?_;refine⟨congrArg (AV.int .i64) ?_,M.qt⟩;clear M K;rw[Yb]
  first|(simp_all;done)|(simp_all;omega)|(repeat' split)<;>first|(simp_all;done)|(simp_all;omega)|omega
 exact XP

theorem Ot(hf:Qj st)(n s:Nat)(z:Bool)(hs:s<n+2)(hn:n≤20)(h1:Q4 st.h.get c1 0 [iN n])(h3:Q4 st.h.get c3 0 [iZ (n+1:Nat)]): ∃v st',Ev Tryz.prog Q5 176 [iN s,.bool true,.bool false,.bool z,.ptr c3 0 0,.ptr c1 0 0] st v st'∧v=iZ (Jp [110,117,109] n s true false z)∧Qt st st':=by
 refine JI Tryz.func176 Tryz.ntmps176 fun T K=>?_;have M:=Mem.start hf;refine Qc 2 K M ?_;intro _ K;refine p1 K (Qd rfl (Q0 (M.JK QA h3.Jf) (Qf Qr rfl))) fun _ K=>?_;refine Qc 1 K M ?_;intro _ K;refine Un K (Qg rfl) rfl (fun _ e15 K=>?_) fun _ e15 K=>?_
 ·refine Qc 9 K M ?_;intro _ K;refine p1 K (Qd rfl (Q0 (M.JK QA h3.Jf) (Qf Qr rfl))) fun _ K=>?_;refine Qc 1 K M ?_;intro _ K;refine Un K (Qg rfl) rfl (fun _ e28 K=>?_) fun _ e28 K=>?_
  ·exact XP
  refine Qc 6 K M ?_;refine⟨congrArg (AV.int .i64) ?_,M.qt⟩;clear M K;rw[Yb]
  first|(simp_all;done)|(simp_all;omega)|(repeat' split)<;>first|(simp_all;done)|(simp_all;omega)|omega
 refine Qc 2 K M ?_;intro _ K;refine pg K rfl rfl (Qd rfl (Q0 (M.JK QA h1.Jf) (Qf Qr rfl))) fun _ K=>?_;refine Qc 1 K M ?_;intro _ K;refine pg K rfl rfl (ZZ Yq rfl rfl) fun _ K=>?_;refine Qc 2 K M ?_;intro _ K;refine Qq (K.QJ rfl) (fun h11=>?_) (fun h11=>?_)
 ·have hb11:=h11;refine Qc 3 K M ?_;refine⟨congrArg (AV.int .i64) ?_,M.qt⟩;clear M K;rw[Yb]
  first|(simp_all;done)|(simp_all;omega)|(repeat' split)<;>first|(simp_all;done)|(simp_all;omega)|omega
 have hb11:=h11;refine Qc 1 K M ?_;intro _ K;refine p1 K (Qd rfl (Q0 (M.JK QA h3.Jf) (Qf Qr rfl))) fun _ K=>?_;refine Qc 1 K M ?_;intro _ K;refine Un K (Qg rfl) rfl (fun _ e28 K=>?_) fun _ e28 K=>?_
 ·refine Qc 6 K M ?_;refine⟨congrArg (AV.int .i64) ?_,M.qt⟩;clear M K;rw[Yb]
  first|(simp_all;done)|(simp_all;omega)|(repeat' split)<;>first|(simp_all;done)|(simp_all;omega)|omega
 exact XP

theorem Ou(hf:Qj st)(n s:Nat)(z:Bool)(hs:s<n+2)(hn:n≤20)(h1:Q4 st.h.get c1 0 [iN n])(h3:Q4 st.h.get c3 0 [iZ (n+1:Nat)]): ∃v st',Ev Tryz.prog Q5 176 [iN s,.bool false,.bool true,.bool z,.ptr c3 0 0,.ptr c1 0 0] st v st'∧v=iZ (Jp [110,117,109] n s false true z)∧Qt st st':=by
 refine JI Tryz.func176 Tryz.ntmps176 fun T K=>?_;have M:=Mem.start hf;refine Qc 2 K M ?_;intro _ K;refine p1 K (Qd rfl (Q0 (M.JK QA h3.Jf) (Qf Qr rfl))) fun _ K=>?_;refine Qc 1 K M ?_;intro _ K;refine Un K (Qg rfl) rfl (fun _ e15 K=>?_) fun _ e15 K=>?_
 ·refine Qc 9 K M ?_;intro _ K;refine p1 K (Qd rfl (Q0 (M.JK QA h3.Jf) (Qf Qr rfl))) fun _ K=>?_;refine Qc 1 K M ?_;intro _ K;refine Un K (Qg rfl) rfl (fun _ e28 K=>?_) fun _ e28 K=>?_
  ·exact XP
  refine Qc 5 K M ?_;intro _ K;refine p1 K (Qd rfl (Q0 (M.JK QA h3.Jf) (Qf Qr rfl))) fun _ K=>?_;refine Qc 1 K M ?_;refine⟨congrArg (AV.int .i64) ?_,M.qt⟩;clear M K;rw[Yb]
  first|(simp_all;done)|(simp_all;omega)|(repeat' split)<;>first|(simp_all;done)|(simp_all;omega)|omega
 refine Qc 2 K M ?_;intro _ K;refine pg K rfl rfl (Qd rfl (Q0 (M.JK QA h1.Jf) (Qf Qr rfl))) fun _ K=>?_;refine Qc 1 K M ?_;intro _ K;refine pg K rfl rfl (ZZ Yq rfl rfl) fun _ K=>?_;refine Qc 2 K M ?_;intro _ K;refine Qq (K.QJ rfl) (fun h11=>?_) (fun h11=>?_)
 ·have hb11:=h11;refine Qc 3 K M ?_;refine⟨congrArg (AV.int .i64) ?_,M.qt⟩;clear M K;rw[Yb]
  first|(simp_all;done)|(simp_all;omega)|(repeat' split)<;>first|(simp_all;done)|(simp_all;omega)|omega
 have hb11:=h11;refine Qc 1 K M ?_;intro _ K;refine p1 K (Qd rfl (Q0 (M.JK QA h3.Jf) (Qf Qr rfl))) fun _ K=>?_;refine Qc 1 K M ?_;intro _ K;refine Un K (Qg rfl) rfl (fun _ e28 K=>?_) fun _ e28 K=>?_
 ·refine Qc 6 K M ?_;refine⟨congrArg (AV.int .i64) ?_,M.qt⟩;clear M K;rw[Yb]
  first|(simp_all;done)|(simp_all;omega)|(repeat' split)<;>first|(simp_all;done)|(simp_all;omega)|omega
 exact XP

theorem Ov(hf:Qj st)(n s:Nat)(z:Bool)(hs:s<n+2)(hn:n≤20)(h1:Q4 st.h.get c1 0 [iN n])(h3:Q4 st.h.get c3 0 [iZ (n+1:Nat)]): ∃v st',Ev Tryz.prog Q5 176 [iN s,.bool false,.bool false,.bool z,.ptr c3 0 0,.ptr c1 0 0] st v st'∧v=iZ (Jp [110,117,109] n s false false z)∧Qt st st':=by
 refine JI Tryz.func176 Tryz.ntmps176 fun T K=>?_;have M:=Mem.start hf;refine Qc 2 K M ?_;intro _ K;refine p1 K (Qd rfl (Q0 (M.JK QA h3.Jf) (Qf Qr rfl))) fun _ K=>?_;refine Qc 1 K M ?_;intro _ K;refine Un K (Qg rfl) rfl (fun _ e15 K=>?_) fun _ e15 K=>?_
 ·refine Qc 9 K M ?_;intro _ K;refine p1 K (Qd rfl (Q0 (M.JK QA h3.Jf) (Qf Qr rfl))) fun _ K=>?_;refine Qc 1 K M ?_;intro _ K;refine Un K (Qg rfl) rfl (fun _ e28 K=>?_) fun _ e28 K=>?_
  ·exact XP
  refine Qc 5 K M ?_;intro _ K;refine p1 K (Qd rfl (Q0 (M.JK QA h3.Jf) (Qf Qr rfl))) fun _ K=>?_;refine Qc 1 K M ?_;refine⟨congrArg (AV.int .i64) ?_,M.qt⟩;clear M K;rw[Yb]
  first|(simp_all;done)|(simp_all;omega)|(repeat' split)<;>first|(simp_all;done)|(simp_all;omega)|omega
 refine Qc 2 K M ?_;intro _ K;refine pg K rfl rfl (Qd rfl (Q0 (M.JK QA h1.Jf) (Qf Qr rfl))) fun _ K=>?_;refine Qc 1 K M ?_;intro _ K;refine pg K rfl rfl (ZZ Yq rfl rfl) fun _ K=>?_;refine Qc 2 K M ?_;intro _ K;refine Qq (K.QJ rfl) (fun h11=>?_) (fun h11=>?_)
 ·have hb11:=h11;refine Qc 3 K M ?_;refine⟨congrArg (AV.int .i64) ?_,M.qt⟩;clear M K;rw[Yb]
  first|(simp_all;done)|(simp_all;omega)|(repeat' split)<;>first|(simp_all;done)|(simp_all;omega)|omega
 have hb11:=h11;refine Qc 1 K M ?_;intro _ K;refine p1 K (Qd rfl (Q0 (M.JK QA h3.Jf) (Qf Qr rfl))) fun _ K=>?_;refine Qc 1 K M ?_;intro _ K;refine Un K (Qg rfl) rfl (fun _ e28 K=>?_) fun _ e28 K=>?_
 ·refine Qc 6 K M ?_;refine⟨congrArg (AV.int .i64) ?_,M.qt⟩;clear M K;rw[Yb]
  first|(simp_all;done)|(simp_all;omega)|(repeat' split)<;>first|(simp_all;done)|(simp_all;omega)|omega
 exact XP

theorem Ri(hf:Qj st)(n s:Nat)(x y z:Bool)(hs:s<n+2)(hn:n≤20)(h1:Q4 st.h.get c1 0 [.int .i64 (n:Nat)])(h3:Q4 st.h.get c3 0 [.int .i64 (n+1:Nat)]): ∃v st',Ev Tryz.prog Q5 176 [.int .i64 (s:Nat),.bool x,.bool y,.bool z,.ptr c3 0 0,.ptr c1 0 0] st v st'∧v=.int .i64 (Jp [110,117,109] n s x y z)∧Qt st st':=by
 cases x
 ·cases y
  ·exact Ov hf n s z hs hn h1 h3
  ·exact Ou hf n s z hs hn h1 h3
 ·cases y
  ·exact Ot hf n s z hs hn h1 h3
  ·exact Oq hf n s z hs hn h1 h3
end Go.Proofs.YtiknomepbklibaaGreatDoor
end
section
namespace Go.Proofs.YtiknomepbklibaaGreatDoor
open Go Go.RowKit
variable {st:St}

theorem Gq{a m:Au}{cl l:List Int}(W:Zt a)(h:ZS a cl)(ht:m.tr=a.tr)(H:Uw (ID a cl) (cv cl 0) (Pc a cl) l m):JA a m:=
 have h1:=Gk W h ht H
 ⟨h1.1,h1.2,ht⟩
theorem zY{R:WM}(hf:Qj st)(hR:YH R st.h.get){o:List Nat}{a b g n:Int}{l:List Cr}{cs:List AV}(hr:Y9 R (.mk o a b g n l) cs){m:Int}(h0:0≤m)(h6:m≤6)(hsz:ZM (.mk o a b g n l)≤2000)(hc:Jh (.mk o a b g n l) m=true): ∃v st',Ev Tryz.prog Q5 33 [.agg cs,.int .i64 m] st v st'∧v=.bool true∧Qt st st':=by
 obtain⟨v,st',h1,h2,h3⟩:=Sr hf hR hr m;refine⟨v,st',h1,?_,h3⟩;rw[h2,decide_eq_true h0,decide_eq_true h6,decide_eq_true hsz,hc];rfl
section
variable {o:List Nat} {a b d n k s c:Nat}
def On(o:List Nat)(a b d n s c:Nat):List Int:=(List.range c).map fun l=>((Hm o n a b d s l:Nat):Int)
def IY(o:List Nat)(a b d n k s:Nat):List (List Int):=(List.range s).map fun t=>On o a b d n t (2^k)
def qk(o:List Nat)(n s:Nat):List Bool:=(List.range s).map (Xj o n)
theorem qD(hs:s≤30)(hn:n≤20)(l:Nat):Hm o n a b d s l=QV o n s (l/2^a % 2) (l/2^b % 2) (l/2^d % 2):=Nat.min_eq_left (qE hs hn)
theorem CS:(On o a b d n s c).length=c:=by simp[On]
theorem TN(hs:s≤30)(hn:n≤20):On o a b d n s (c+1)=On o a b d n s c++[((QV o n s (c/2^a % 2) (c/2^b % 2) (c/2^d % 2):Nat):Int)]:=by
 unfold On;rw[List.range_succ,List.map_append,List.map_singleton,qD hs hn]
theorem Sm: ∀z∈On o a b d n s c,0≤z∧z≤30:=fun z hz=>by
 obtain⟨l,_,rfl⟩:=List.mem_map.1 hz;have:=L5 (o:=o) (n:=n) (a:=a) (b:=b) (d:=d) s l;omega
theorem zj:Vm (On o a b d n s c):=fun z hz=>by
 have:=Sm z hz
 constructor<;>omega
theorem PJ:IY o a b d n k (s+1)=IY o a b d n k s++[On o a b d n s (2^k)]:=by
 unfold IY;rw[List.range_succ,List.map_append,List.map_singleton]
theorem OZ:(IY o a b d n k s).length=s:=by simp[IY]
theorem qj:qk o n (s+1)=qk o n s++[Xj o n s]:=by
 unfold qk;rw[List.range_succ,List.map_append,List.map_singleton]
theorem yz:(qk o n s).length=s:=by simp[qk]
theorem qM: ∀r∈IY o a b d n k s,∀z∈r,0≤z∧z≤30:=fun r hr z hz=>by
 obtain⟨t,_,rfl⟩:=List.mem_map.1 hr;exact Sm z hz
theorem RM(l v:Nat):l/2^v % 2≤1:=Nat.le_of_lt_succ (Nat.mod_lt _ QE)
end

theorem Ce(hf:Qj st){LL:List (List Int)}{ka kn:AV}{ls:List (List AV)}(hac:Qu ka=true)(hN:Ll st.h.get LL kn ls)(hin: ∀r∈LL,∀z∈r,0≤z∧z≤30)(hle: ∀r∈LL,r.length≤64)(hll:LL.length≤1000)(k:Nat): ∃v st',Ev Tryz.prog Q5 132 [.agg [iN k,ka,kn]] st v st'∧v=.agg [iN k,ka,kn]∧Qt st st':=by
 have hnc:=hN.r.cell;refine JI Tryz.func132 Tryz.ntmps132 fun T K=>?_;have M:=Mem.start hf;refine QD<|Qv ?_;refine Jv K M rfl (Qa rfl (Qa hac (Qa hN.r.cell Qz))) QE fun c1 _ _ K M=>?_;refine au 2 K M ?_;intro c2 _ _ K _ M;refine Je (fun mm1 T st9=> ∃(i:Nat),mm1=LL.length-i∧QZ [(1,.ptr c1 0 0),(2,.ptr c2 0 0),(3,iN i)] T∧Mem st.h.get st.n [] st9 [(c2,0,[iZ 0,.nils,.nils]),(c1,0,[iN k,ka,kn])]∧i≤LL.length) (fun mm1 T st9 hI=>?_) _ _ _ ⟨0,rfl,(K.sub rfl),M.less (.refl _),(Nat.zero_le _)⟩;obtain⟨i,rfl,K,M,hil⟩:=hI;refine Qc 2 K M ?_;intro _ K;refine p1 K (Qd rfl (M.load (k:=1) rfl (Qf Q6 rfl))) fun _ K=>p1 K (Q8 J6 rfl rfl hN.len) fun _ K=>?_;refine Qc 1 K M ?_;intro _ K;refine JS K rfl (fun h9=>?_) fun h9=>?_
 ·refine Qc 1 K M ?_;intro _ K;refine Je (fun mm2 T st9=> ∃(c:Nat),mm2=64-c∧QZ [(1,.ptr c1 0 0),(2,.ptr c2 0 0),(3,iN i),(4,iN c),(9,.bool (decide (((i:Nat):Int)<((LL.length:Nat):Int))))] T∧Mem st.h.get st.n [] st9 [(c2,0,[iZ 0,.nils,.nils]),(c1,0,[iN k,ka,kn])]∧c≤64) (fun mm2 T st9 hI=>?_) _ _ _ ⟨0,rfl,(K.sub rfl),M.less (.refl _),Qe⟩;obtain⟨c,rfl,K,M,hc9⟩:=hI;refine Qc 2 K M ?_;intro _ K;refine p1 K (Qd rfl (M.load (k:=1) rfl (Qf Q6 rfl))) fun _ K=>?_;refine Qc 1 K M ?_;intro _ K;obtain⟨s16,hi16⟩:=U9 LL i Qe;obtain⟨_,hc16,w16,rfl,hr16,hz16⟩:=hN.at_ _ _ hi16;obtain⟨x16,m16,f16,q16,_,la16,lo16,lp16⟩:=(Jk.mem M hN.r QA).load (i:=i) (cs:=_) hc16;refine p1 K (Qb (j:=i) QY (congrArg some q16) rfl (by rw[hN.ln];omega)) fun _ K=>p1 K (Qd rfl (lo16 _ 0 _ Ja rfl)) fun _ K=>p1 K (Q8 Jr rfl rfl (hr16.len.trans (congrArg some (Qn _)))) fun _ K=>?_;refine Qc 1 K M ?_;intro _ K;refine JS K rfl (fun h19=>?_) fun h19=>?_
  ·refine Qc 1 K M ?_;intro _ K;refine p1 K (Qd rfl (M.load (k:=1) rfl (Qf Q6 rfl))) fun _ K=>?_;refine Qc 1 K M ?_;intro _ K;obtain⟨_,hc25,w25,rfl,hr25,hz25⟩:=hN.at_ _ _ hi16;obtain⟨x25,m25,f25,q25,_,la25,lo25,lp25⟩:=(Jk.mem M hN.r QA).load (i:=i) (cs:=_) hc25;refine p1 K (Qb (j:=i) QY (congrArg some q25) rfl (by rw[hN.ln];omega)) fun _ K=>p1 K (Qd rfl (lo25 _ 0 _ Ja rfl)) fun _ K=>?_;refine Qc 1 K M ?_;intro _ K;obtain⟨y28,hi28⟩:=U9 s16 c Qe;have hb28:=hin s16 (List.mem_of_getElem? hi16) y28 (List.mem_of_getElem? hi28);obtain⟨x28,m28,f28,q28,_,la28,lo28,lp28⟩:=(Jk.mem M hr25 QA).load (i:=c) (cs:=_) (Jt hi28);refine p1 K (Qb (j:=c) Qw (congrArg some q28) rfl (by rw[Qn];omega)) fun _ K=>p1 K (Qd rfl (lo28 _ 0 _ Qr rfl)) fun _ K=>?_;refine Qc 1 K M ?_;intro _ K;refine Un K (Qg rfl) rfl (fun _ e31 K=>?_) fun _ e31 K=>?_
   ·refine Qc 1 K M ?_;intro _ K;refine pg K rfl rfl (Qd rfl (M.load (k:=1) rfl (Qf Q6 rfl))) fun _ K=>?_;refine Qc 1 K M ?_;intro _ K;obtain⟨_,hc35,w35,rfl,hr35,hz35⟩:=hN.at_ _ _ hi16;obtain⟨x35,m35,f35,q35,_,la35,lo35,lp35⟩:=(Jk.mem M hN.r QA).load (i:=i) (cs:=_) hc35;refine pg K rfl rfl (Qb (j:=i) QY (congrArg some q35) rfl (by rw[hN.ln];omega)) fun _ K=>pg K rfl rfl (Qd rfl (lo35 _ 0 _ Ja rfl)) fun _ K=>?_;refine Qc 1 K M ?_;intro _ K;obtain⟨x38,m38,f38,q38,_,la38,lo38,lp38⟩:=(Jk.mem M hr35 QA).load (i:=c) (cs:=_) (Jt hi28);refine pg K rfl rfl (Qb (j:=c) Qw (congrArg some q38) rfl (by rw[Qn];omega)) fun _ K=>pg K rfl rfl (Qd rfl (lo38 _ 0 _ Qr rfl)) fun _ K=>?_;refine Qc 2 K M ?_;intro _ K;refine JS K rfl (fun h41=>?_) fun h41=>?_
    ·exact XP
    refine Qc 3 K M ?_;intro _ K;exact⟨_,(by have:=hle s16 (List.mem_of_getElem? hi16);omega),c+1,rfl,(K.sub rfl),M.less (.refl _),(by have:=hle s16 (List.mem_of_getElem? hi16);omega)⟩
   exact XP
  refine QW ?_;show W _ _ _ _ _ _ _;refine Qc 3 K M ?_;intro _ K;exact⟨_,Qe,i+1,rfl,(K.sub rfl),M.less (.refl _),Qe⟩
 refine QW ?_;show W _ _ _ _ _ _ _;refine Qc 1 K M ?_;intro _ K;refine QS (k:=0) K M rfl rfl rfl QC rfl (Qa rfl (Qa hac (Qa hN.r.cell Qz))) rfl fun _ M=>?_;refine Qc 0 K M ?_;exact⟨rfl,M.qt⟩

theorem zK{R:WM}(hf:Qj st)(hR:YH R st.h.get){o:List Nat}{an bn dn nn k:Nat}{l:List Cr}{cs:List AV}(hr:Y9 R (.mk o ((an:Nat):Int) ((bn:Nat):Int) ((dn:Nat):Int) ((nn:Nat):Int) l) cs)(hat:Wo o)(hn:nn≤20)(ha6:an≤6)(hb6:bn≤6)(hg6:dn≤6)(hk6:k≤6)(hsz:ZM (.mk o ((an:Nat):Int) ((bn:Nat):Int) ((dn:Nat):Int) ((nn:Nat):Int) l)≤2000)(hc:Jh (.mk o ((an:Nat):Int) ((bn:Nat):Int) ((dn:Nat):Int) ((nn:Nat):Int) l) ((k:Nat):Int)=true): ∃v st',Ev Tryz.prog Q5 102 [.agg cs,iN k] st v st'∧ ∃x m,v=.tup [x,.bool true]∧JA (Xp o an bn dn nn k) m∧A0 st st' m x∧Qt st st':=by
 have hr0:=hr;obtain⟨kc,ls,rfl,hK⟩:=hr.Ym;have hln:=hK.ln;have hbn:=hK.E0
 have hne:o≠[110,111,116]∧o≠[97,110,100]∧o≠[101,120]:=by rcases hat with rfl|rfl|rfl|rfl|rfl|rfl|rfl|rfl|rfl|rfl|rfl<;>simp
 have hkc:=hK.cell;have hp6:=JH hk6;have hp0:0<2^k:=Nat.two_pow_pos _;have B:=Qk.start hf;refine JI Tryz.func102 Tryz.ntmps102 fun T K=>?_;have M:=B.mem;refine QD<|Qv ?_;refine Jv K M rfl (Qa rfl (Qa rfl (Qa rfl (Qa rfl (Qa rfl (Qa hK.cell Qz)))))) QE fun c2 _ _ K M=>?_;refine au 4 K M ?_;intro c4 _ _ K _ M;refine oQ K M (zY M.fresh (M.YH hR) hr0 (m:=((k:Nat):Int)) Qe Qe hsz hc) rfl rfl fun _ _ K M=>?_;refine Qc 4 K M ?_;intro _ K;refine pg K rfl rfl (Jm (b:=[110,111,116]) rfl rfl) fun _ K=>?_;refine Qc 1 K M ?_;intro _ K;refine Un K (Qg rfl) rfl (fun _ e19 K=>?_) fun _ e19 K=>?_
 ·refine Qc 2 K M ?_;intro _ K;refine pg K rfl rfl (Jm (b:=[97,110,100]) rfl rfl) fun _ K=>?_;refine Qc 1 K M ?_;intro _ K;refine Un K (Qg rfl) rfl (fun _ e24 K=>?_) fun _ e24 K=>?_
  ·refine Qc 2 K M ?_;intro _ K;refine pg K rfl rfl (Jm (b:=[101,120]) rfl rfl) fun _ K=>?_;refine Qc 1 K M ?_;intro _ K;refine JS K rfl (fun h28=>?_) fun h28=>?_
   ·exfalso;exact hne.2.2 h28
   refine au 4 K M ?_;intro c6 _ _ K _ M;replace B:=(B.step M).V1;have M:=B.mem;refine Qc 1 K M ?_;intro _ K;refine Je (fun mm1 T st9=> ∃(s:Nat) (vs:List AV) (F:Fp) (ka4:AV) (Aa:QP) (kr4:AV) (Ar:QP),mm1=31-s∧QZ [(1,iN k),(2,.ptr c2 0 0),(4,.ptr c4 0 0),(5,.bool false),(6,.ptr c6 0 0),(7,iN s)] T∧Qk st Xu st9 ((c6,0,[iN k,ka4,kr4])::(c4,0,[iZ 0,.nils,.nils])::(c2,0,[.str o,iN an,iN bn,iN dn,iN nn,kc])::(Aa++(Ar++[]))) [EC F vs (IY o an bn dn nn k s)]∧s≤31∧Acc 0 1 Aa ka4 (bC (qk o nn s))∧YS Ar kr4 vs) (fun mm1 T st9 hI=>?_) _ _ _ ⟨0,[],_,.nils,[],.nils,[],rfl,(K.sub rfl),(B.step M).less (.refl _),QE,.none,.none⟩;obtain⟨s,vs,F,ka4,Aa,kr4,Ar,rfl,K,B,hs31,hAa,hAr⟩:=hI;have M:=B.mem;refine Qc 2 K M ?_;intro _ K;refine JS K rfl (fun h33=>?_) fun h33=>?_
   ·refine Qc 2 K M ?_;intro _ K;refine Je (fun mm2 T st9=> ∃(c:Nat) (kw:AV) (Aw:QP),mm2=2^k-c∧QZ [(1,iN k),(2,.ptr c2 0 0),(4,.ptr c4 0 0),(5,.bool false),(6,.ptr c6 0 0),(7,iN s),(8,kw),(9,iN c),(33,.bool (decide (((s:Nat):Int)≤30)))] T∧Qk st Xu st9 ((c6,0,[iN k,ka4,kr4])::(c4,0,[iZ 0,.nils,.nils])::(c2,0,[.str o,iN an,iN bn,iN dn,iN nn,kc])::(Aa++(Ar++(Aw++[])))) [EC F vs (IY o an bn dn nn k s)]∧c≤2^k∧Acc 0 1 Aw kw (zC (On o an bn dn nn s c))) (fun mm2 T st9 hI=>?_) _ _ _ ⟨0,.nils,[],rfl,(K.sub rfl),(B.step M).less (.refl _),(Nat.zero_le _),.none⟩;obtain⟨c,kw,Aw,rfl,K,B,hcK,hAw⟩:=hI;have M:=B.mem;refine Qc 2 K M ?_;intro _ K;refine p1 K (YZ (c:=((k:Nat):Int)) Zj Yh rfl (IntWalk.u64_in _ Qe)) fun _ K=>p1 K (Y5 (n:=k) rfl rfl Qe) fun _ K=>?_;refine Qc 1 K M ?_;intro _ K;refine JS K rfl (fun h40=>?_) fun h40=>?_
    ·refine Qc 6 K M ?_;intro _ K;refine p1 K (YZ (c:=((an:Nat):Int)) Zj Yh rfl (IntWalk.u64_in _ Qe)) fun _ K=>p1 K (X3 (a:=c) (n:=an) rfl rfl Qe) fun _ K=>p1 K (X5 (a:=c/2^an) rfl rfl (Nat.le_trans (Nat.div_le_self ..) Qe)) fun _ K=>?_;refine Qc 3 K M ?_;intro _ K;refine p1 K (YZ (c:=((bn:Nat):Int)) Zj Yh rfl (IntWalk.u64_in _ Qe)) fun _ K=>p1 K (X3 (a:=c) (n:=bn) rfl rfl Qe) fun _ K=>p1 K (X5 (a:=c/2^bn) rfl rfl (Nat.le_trans (Nat.div_le_self ..) Qe)) fun _ K=>?_;refine Qc 3 K M ?_;intro _ K;refine p1 K (YZ (c:=((dn:Nat):Int)) Zj Yh rfl (IntWalk.u64_in _ Qe)) fun _ K=>p1 K (X3 (a:=c) (n:=dn) rfl rfl Qe) fun _ K=>p1 K (X5 (a:=c/2^dn) rfl rfl (Nat.le_trans (Nat.div_le_self ..) Qe)) fun _ K=>?_;refine oQ K M (TD M.fresh hkc hn (show s≤30 by omega) (RM c an) (RM c bn) (RM c dn)) rfl rfl fun _ _ K M=>?_;refine au 1 K M ?_;intro c65 _ _ K _ M;refine Jg (k2:=0) (L:=((c65,0,[iZ (QV o nn s (c/2^an % 2) (c/2^bn % 2) (c/2^dn % 2):Nat)])::(c6,0,[iN k,ka4,kr4])::(c4,0,[iZ 0,.nils,.nils])::(c2,0,[.str o,iN an,iN bn,iN dn,iN nn,kc])::(Aa++(Ar++[])))) (A:=Aw) (B:=[]) K (Mem.cast (M:=((c65,0,[iZ (QV o nn s (c/2^an % 2) (c/2^bn % 2) (c/2^dn % 2):Nat)])::(c6,0,[iN k,ka4,kr4])::(c4,0,[iZ 0,.nils,.nils])::(c2,0,[.str o,iN an,iN bn,iN dn,iN nn,kc])::(Aa++(Ar++(Aw++[]))))) (M':=((c65,0,[iZ (QV o nn s (c/2^an % 2) (c/2^bn % 2) (c/2^dn % 2):Nat)])::(c6,0,[iN k,ka4,kr4])::(c4,0,[iZ 0,.nils,.nils])::(c2,0,[.str o,iN an,iN bn,iN dn,iN nn,kc])::(Aa++(Ar++[])))++(Aw++[])) M Uu) hAw QM rfl rfl rfl rfl (by rw[Qn,CS];omega) rfl fun ks66 A66 _ _ K hA66 M=>?_;simp only[List.append_assoc,List.cons_append,List.nil_append,List.set_cons_zero,List.set_cons_succ]at M;refine Qc 4 K M ?_;intro _ K;exact⟨_,Qe,c+1,ks66,A66,rfl,(K.sub rfl),(B.step M).less (.cons _ (.refl _)),Qe,(by rw[TN Qe hn,JY];exact hA66)⟩
    refine QW ?_;show W _ _ _ _ _ _ _;refine QD ?_;refine QF (l:=[(2,0),(3,0),(4,0),(0,0),(1,1),(5,0),(6,0),(7,0),(8,0)]) (by kernel_rfl) ?_;have Mq:=M;have Bq:=B;refine Jc 2 K M ?_;intro _ K;obtain⟨v71,st71,ev71,rfl,q71⟩:=Cm M.fresh hkc hn;refine qA rfl K (Qh rfl ev71) fun _ K=>?_;replace M:=M.quiet q71;have Mp:=Mq;have Mq:=M;have Bp:=Bq;have Bq:=B;refine Jc 1 K M ?_;intro _ K;refine Jl rfl K rfl (M.load (k:=0) rfl (Qf Us rfl)) (Mp.load (k:=0) rfl (Qf Us rfl)) (JU (Ju hAa.len)) rfl QE fun _ K=>?_;refine Xk rfl K M J5 XZ rfl rfl rfl rfl rfl fun c72 _ _ K M=>?_;refine X8 (k2:=0) (L:=[(c72,0,[.bool (Xj o nn s)]),(c6,0,[iN k,ka4,kr4]),(c4,0,[iZ 0,.nils,.nils]),(c2,0,[.str o,iN an,iN bn,iN dn,iN nn,kc])]) (A:=Aa) (B:=(Ar++(Aw++[]))) rfl K M hAa J5 rfl rfl rfl rfl (by rw[Jy,yz];omega) rfl fun ks73 A73 _ _ K hA73 M=>?_;have Mp:=Mq;have Mq:=M;have Bp:=Bq;have Bq:=B;refine Jc 1 K M ?_;intro _ K;refine Zi (k:=1) rfl K M rfl rfl rfl UF (hA73.cell) rfl fun _ M=>?_;have Mp:=Mq;have Mq:=M;have Bp:=Bq;have Bq:=B;refine QH ?_;show W _ _ _ _ _ _ _;refine Qc 1 K M ?_;intro _ K;refine p1 K (Qd rfl (M.load (k:=1) rfl (Qf Q6 rfl))) fun _ K=>?_;refine Qc 1 K M ?_;intro _ K;refine ZV K M QU Uv rfl ((JC rfl hAw.cell rfl).trans rfl) (Qa hAw.cell Qz) rfl rfl fun c78 _ _ K M=>?_;refine YL (k2:=0) (L:=((c78,0,[kw])::(c72,0,[.bool (Xj o nn s)])::(c6,0,[iN k,ks73,kr4])::(c4,0,[iZ 0,.nils,.nils])::(c2,0,[.str o,iN an,iN bn,iN dn,iN nn,kc])::(A73++[]))) (A:=Ar) (B:=(Aw++[])) K (Mem.cast (M:=((c78,0,[kw])::(c72,0,[.bool (Xj o nn s)])::(c6,0,[iN k,ks73,kr4])::(c4,0,[iZ 0,.nils,.nils])::(c2,0,[.str o,iN an,iN bn,iN dn,iN nn,kc])::(A73++(Ar++(Aw++[]))))) (M':=((c78,0,[kw])::(c72,0,[.bool (Xj o nn s)])::(c6,0,[iN k,ks73,kr4])::(c4,0,[iZ 0,.nils,.nils])::(c2,0,[.str o,iN an,iN bn,iN dn,iN nn,kc])::(A73++[]))++(Ar++(Aw++[]))) M Uu) hAr QU rfl rfl rfl (by have:=YR.ln ((B.step M).at_ (k:=0) rfl);rw[OZ]at this;omega) rfl fun ks79 A79 _ _ K hA79 _ M=>?_;simp only[List.append_assoc,List.cons_append,List.nil_append,List.set_cons_zero,List.set_cons_succ]at M;refine Qc 1 K M ?_;intro _ K;refine Jj (k:=2) K M rfl rfl rfl Uz (hA79.cell) rfl fun _ M=>?_;refine Qc 3 K M ?_;intro _ K;replace B:=B.step M;obtain⟨Fr,B⟩:=Qk.ZF (L:=((c78,0,[kw])::(c72,0,[.bool (Xj o nn s)])::(c6,0,[iN k,ks73,ks79])::(c4,0,[iZ 0,.nils,.nils])::(c2,0,[.str o,iN an,iN bn,iN dn,iN nn,kc])::(A73++(A79++[])))) (A:=Aw) (B:=[]) (B.cast Uu) hAw zj;replace B:=B.cast (M':=((c78,0,[kw])::(c72,0,[.bool (Xj o nn s)])::(c6,0,[iN k,ks73,ks79])::(c4,0,[iZ 0,.nils,.nils])::(c2,0,[.str o,iN an,iN bn,iN dn,iN nn,kc])::(A73++(A79++[])))) Uu;have M:=B.mem
    have hc2:c=2^k:=by omega
    rw[hc2,←PJ]at B;exact⟨_,Qe,s+1,_,_,ks73,A73,ks79,A79,rfl,(K.sub rfl),(B.step M).less (.cons _ (.cons _ (.refl _))),Qe,(by rw[qj,XS];exact hA73),hA79⟩
   refine QW ?_;show W _ _ _ _ _ _ _;refine Qc 1 K M ?_;intro _ K;replace B:=B.step M;obtain⟨Fo,B⟩:=Qk.GR (L:=((c6,0,[iN k,ka4,kr4])::(c4,0,[iZ 0,.nils,.nils])::(c2,0,[.str o,iN an,iN bn,iN dn,iN nn,kc])::(Aa++[]))) (A:=Ar) (B:=[]) (B.cast Uu) hAr;replace B:=B.cast (M':=((c6,0,[iN k,ka4,kr4])::(c4,0,[iZ 0,.nils,.nils])::(c2,0,[.str o,iN an,iN bn,iN dn,iN nn,kc])::(Aa++[]))) Uu;have M:=B.mem
   have hs31:s=31:=by omega
   subst hs31;obtain⟨v82,st82,ev82,rfl,q82⟩:=Ce M.fresh hAa.cell (Xy.r (B.at_ (k:=0) rfl)) qM (fun r hr=>by obtain⟨t,_,rfl⟩:=List.mem_map.1 hr;rw[CS];exact hp6) (by rw[OZ];decide) k;refine p1 K (Qh rfl ev82) fun _ K=>?_;replace B:=(B.step M).quiet q82;have M:=B.mem;replace B:=B.step M;obtain⟨v83,st83,ev83,cl9,l9,m,hcls,htr9,hmd,nau,q83⟩:=jJ (a:=Xp o an bn dn nn k) B.fresh (Pp hk6) (Mem.Yl (L:=[(c6,0,[iN k,ka4,kr4]),(c4,0,[iZ 0,.nils,.nils]),(c2,0,[.str o,iN an,iN bn,iN dn,iN nn,kc])]) (A:=Aa) (B:=[]) M hAa) (Xy.r (B.at_ (k:=0) rfl));refine p1 K (Qh rfl ev83) fun _ K=>?_;obtain⟨kam,km,vm,Am,Fm,rfl,hAm,B⟩:=B.EO q83 nau;have hlm:=Gq (Pp hk6) hcls htr9 hmd;replace B:=B.cast (M':=((c6,0,[iN k,ka4,kr4])::(c4,0,[iZ 0,.nils,.nils])::(c2,0,[.str o,iN an,iN bn,iN dn,iN nn,kc])::(Aa++(Am++[])))) Uu;have hkm:Qu km=true:=(Xy.rd (B.at_ (k:=0) rfl)).cell;have M:=B.mem;refine QS (k:=1) K M rfl rfl rfl QC rfl (Qa rfl (Qa hAm.cell (Qa hkm Qz))) rfl fun _ M=>?_;refine Qc 1 K M ?_;intro _ K;refine Jz ⟨.inr rfl,_,(Ud (JG K rfl (M.load (k:=1) rfl (QG QQ rfl))) (Q9 K rfl)),?_⟩;replace B:=B.step M;exact⟨_,m,rfl,hlm,Qk.GQ (a:=m) (M:=((c6,0,[iN k,ka4,kr4])::(c4,0,[iZ (m.tr:Nat),kam,km])::(c2,0,[.str o,iN an,iN bn,iN dn,iN nn,kc])::(Aa++[]))) (A:=Am) (B.cast Uu) hAm,B.qt⟩
  refine au 8 K M ?_;intro _ _ K _ M;refine Jz ⟨.inr rfl,_,(Ud (JG K rfl (M.load (k:=0) rfl (QG QQ rfl))) (Q9 K rfl)),?_⟩
  exfalso;first|exact hne.1 (by assumption)|exact hne.2.1 (by assumption)|exact hne.2.2 (by assumption)|(simp_all;done)
 refine au 13 K M ?_;intro _ _ K _ M;refine Jz ⟨.inr rfl,_,(Ud (JG K rfl (M.load (k:=0) rfl (QG QQ rfl))) (Q9 K rfl)),?_⟩
 exfalso;first|exact hne.1 (by assumption)|exact hne.2.1 (by assumption)|exact hne.2.2 (by assumption)|(simp_all;done)
end Go.Proofs.YtiknomepbklibaaGreatDoor
end
section
namespace Go.Proofs.YtiknomepbklibaaGreatDoor
open Go Go.RowKit
variable {c1 n:Nat} {st:St}

theorem RC(hf:Qj st)(n:Nat)(hn:n≤20): ∃v st',Ev Tryz.prog Q5 169 [iN n] st v st'∧ ∃c1 c3,v=.agg [.fn 175 [] [.ptr c1 0 0,.ptr c3 0 0],iZ (n+1:Nat),iZ (n+2:Nat)]∧Q4 st'.h.get c1 0 [iN n]∧Q4 st'.h.get c3 0 [iZ (n+1:Nat)]∧st.n≤c1∧st.n≤c3∧c1≠c3∧Qt st st':=by
 refine JI Tryz.func169 Tryz.ntmps169 fun T K=>?_;have M:=Mem.start hf;refine au 6 K M ?_;intro c1 c2 c3 _ _ K _ M;refine p1 K (X4 rfl rfl) fun _ K=>?_;refine au 5 K M ?_;intro _ _ K _ M;refine Qc 0 K M ?_;have hnd:=M.nodup;simp at hnd;exact⟨c1,c3,rfl,M.UY (k:=2) rfl,M.UY (k:=0) rfl,M.jk (k:=2) rfl,M.jk (k:=0) rfl,by omega,M.qt⟩

theorem Mi(hf:Qj st)(n:Nat)(hn:n≤20): ∃v st',Ev Tryz.prog Q5 170 [iN n] st v st'∧ ∃c1 c3,v=.agg [.fn 176 [] [.ptr c3 0 0,.ptr c1 0 0],iZ (n+1:Nat),iZ (n+2:Nat)]∧Q4 st'.h.get c1 0 [iN n]∧Q4 st'.h.get c3 0 [iZ (n+1:Nat)]∧st.n≤c1∧st.n≤c3∧c1≠c3∧Qt st st':=by
 refine JI Tryz.func170 Tryz.ntmps170 fun T K=>?_;have M:=Mem.start hf;refine au 6 K M ?_;intro c1 c2 c3 _ _ K _ M;refine p1 K (X4 rfl rfl) fun _ K=>?_;refine au 5 K M ?_;intro _ _ K _ M;refine Qc 0 K M ?_;have hnd:=M.nodup;simp at hnd;exact⟨c1,c3,rfl,M.UY (k:=2) rfl,M.UY (k:=0) rfl,M.jk (k:=2) rfl,M.jk (k:=0) rfl,by omega,M.qt⟩

theorem PH(hf:Qj st)(hr:Q4 st.h.get c1 0 [.fn 160 [] []]):Ha st 174 [.ptr c1 0 0] [116,114,117,101] n:=fun st1 q s x y z hs=>by
 obtain⟨v,st2,h1,h2,h3⟩:=Wy q.fresh (hr.later hf q) vU ((s:Nat):Int) x y z;refine⟨v,st2,h1,?_,h3⟩
 have e:Jp [116,114,117,101] n s x y z=(if(true)=true then 0 else-1):=by
  unfold Jp;rw[if_pos rfl];rfl
 rw[h2,e]

theorem PG(hf:Qj st)(hr:Q4 st.h.get c1 0 [.fn 161 [] []]):Ha st 174 [.ptr c1 0 0] [115,117,98] n:=fun st1 q s x y z hs=>by
 obtain⟨v,st2,h1,h2,h3⟩:=Wy q.fresh (hr.later hf q) vS ((s:Nat):Int) x y z;refine⟨v,st2,h1,?_,h3⟩
 have e:Jp [115,117,98] n s x y z=(if((!x||y))=true then 0 else-1):=by
  unfold Jp;rw[if_neg QE,if_pos rfl]
 rw[h2,e]

theorem PF(hf:Qj st)(hr:Q4 st.h.get c1 0 [.fn 162 [] []]):Ha st 174 [.ptr c1 0 0] [110,111,110,101] n:=fun st1 q s x y z hs=>by
 obtain⟨v,st2,h1,h2,h3⟩:=Wy q.fresh (hr.later hf q) vQ ((s:Nat):Int) x y z;refine⟨v,st2,h1,?_,h3⟩
 have e:Jp [110,111,110,101] n s x y z=(if((!x))=true then 0 else-1):=by
  unfold Jp;rw[if_neg QE,if_neg QE,if_pos rfl]
 rw[h2,e]

theorem PE(hf:Qj st)(hr:Q4 st.h.get c1 0 [.fn 163 [] []]):Ha st 174 [.ptr c1 0 0] [117,110,105,111,110] n:=fun st1 q s x y z hs=>by
 obtain⟨v,st2,h1,h2,h3⟩:=Wy q.fresh (hr.later hf q) vO ((s:Nat):Int) x y z;refine⟨v,st2,h1,?_,h3⟩
 have e:Jp [117,110,105,111,110] n s x y z=(if((z==(x||y)))=true then 0 else-1):=by
  unfold Jp;rw[if_neg QE,if_neg QE,if_neg QE,if_pos rfl]
 rw[h2,e]

theorem PD(hf:Qj st)(hr:Q4 st.h.get c1 0 [.fn 164 [] []]):Ha st 174 [.ptr c1 0 0] [105,110,116,101,114] n:=fun st1 q s x y z hs=>by
 obtain⟨v,st2,h1,h2,h3⟩:=Wy q.fresh (hr.later hf q) vM ((s:Nat):Int) x y z;refine⟨v,st2,h1,?_,h3⟩
 have e:Jp [105,110,116,101,114] n s x y z=(if((z==(x&&y)))=true then 0 else-1):=by
  unfold Jp;rw[if_neg QE,if_neg QE,if_neg QE,if_neg QE,if_pos rfl]
 rw[h2,e]

theorem PC(hf:Qj st)(hr:Q4 st.h.get c1 0 [.fn 165 [] []]):Ha st 174 [.ptr c1 0 0] [109,105,110,117,115] n:=fun st1 q s x y z hs=>by
 obtain⟨v,st2,h1,h2,h3⟩:=Wy q.fresh (hr.later hf q) vK ((s:Nat):Int) x y z;refine⟨v,st2,h1,?_,h3⟩
 have e:Jp [109,105,110,117,115] n s x y z=(if((z==(x&& !y)))=true then 0 else-1):=by
  unfold Jp;rw[if_neg QE,if_neg QE,if_neg QE,if_neg QE,if_neg QE,if_pos rfl]
 rw[h2,e]

theorem qd{R:WM}(hf:Qj st)(hR:YH R st.h.get){o:List Nat}{an bn gn nn:Nat}{l:List Cr}{cs:List AV}(hr:Y9 R (.mk o ((an:Nat):Int) ((bn:Nat):Int) ((gn:Nat):Int) ((nn:Nat):Int) l) cs)(hat:Wo o)(hn:nn≤20): ∃v st',Ev Tryz.prog Q5 138 [.agg cs] st v st'∧ ∃f fc,v=.tup [.agg [.fn f [] fc,iZ (QT o nn:Nat),iZ (Qp o nn:Nat)],.bool true]∧Ha st' f fc o nn∧KL (.fn f [] fc) (.fn f [] fc)=true∧Qt st st':=by
 have hr0:=hr;obtain⟨kc,ls,rfl,hK⟩:=hr.Ym;have hln:=hK.ln;have hbn:=hK.E0;refine JI Tryz.func138 Tryz.ntmps138 fun T K=>?_;have M:=Mem.start hf;refine QD<|Qv ?_;refine Jv K M rfl (Qa rfl (Qa rfl (Qa rfl (Qa rfl (Qa rfl (Qa hK.cell Qz)))))) QE fun c1 _ _ K M=>?_;refine au 4 K M ?_;intro c2 _ _ K _ M;refine p1 K (Jm (b:=[116,114,117,101]) rfl rfl) fun _ K=>?_;refine Qc 1 K M ?_;intro _ K;refine JS K rfl (fun h6=>?_) fun h6=>?_
 ·refine QD<|Qv ?_;obtain⟨v8,st8,ev8,c9,rfl,hr1,hn1,q8⟩:=AB M.fresh 160;refine p1 K (Qh rfl ev8) fun _ K=>?_;replace M:=M.XJ q8 hr1 hn1;refine au 2 K M ?_;intro _ _ K _ M;refine Jz ⟨.inr rfl,_,(Ud (JG K rfl (M.load (k:=0) rfl (QG Js rfl))) (Q9 K rfl)),?_⟩
  have ho:o=[116,114,117,101]:=by assumption
  subst ho
  have hlp:QT [116,114,117,101] nn=0:=by simp[QT]
  refine⟨174,[.ptr c9 0 0],?_,?_,AK _ _,M.qt⟩
  ·rw[show Qp [116,114,117,101] nn=0+1 from congrArg (· +1) hlp,hlp];try rfl
  ·exact PH M.fresh (M.UY (k:=2) rfl)
 refine QD<|Qv<|p1 K (Jm (b:=[115,117,98]) rfl rfl) fun _ K=>?_;refine Qc 1 K M ?_;intro _ K;refine JS K rfl (fun h9=>?_) fun h9=>?_
 ·refine QD<|Qv ?_;obtain⟨v11,st11,ev11,c9,rfl,hr1,hn1,q11⟩:=AB M.fresh 161;refine p1 K (Qh rfl ev11) fun _ K=>?_;replace M:=M.XJ q11 hr1 hn1;refine au 2 K M ?_;intro _ _ K _ M;refine Jz ⟨.inr rfl,_,(Ud (JG K rfl (M.load (k:=0) rfl (QG Js rfl))) (Q9 K rfl)),?_⟩
  have ho:o=[115,117,98]:=by assumption
  subst ho
  have hlp:QT [115,117,98] nn=0:=by simp[QT]
  refine⟨174,[.ptr c9 0 0],?_,?_,AK _ _,M.qt⟩
  ·rw[show Qp [115,117,98] nn=0+1 from congrArg (· +1) hlp,hlp];try rfl
  ·exact PG M.fresh (M.UY (k:=2) rfl)
 refine QD<|Qv<|p1 K (Jm (b:=[110,111,110,101]) rfl rfl) fun _ K=>?_;refine Qc 1 K M ?_;intro _ K;refine JS K rfl (fun h12=>?_) fun h12=>?_
 ·refine QD<|Qv ?_;obtain⟨v14,st14,ev14,c9,rfl,hr1,hn1,q14⟩:=AB M.fresh 162;refine p1 K (Qh rfl ev14) fun _ K=>?_;replace M:=M.XJ q14 hr1 hn1;refine au 2 K M ?_;intro _ _ K _ M;refine Jz ⟨.inr rfl,_,(Ud (JG K rfl (M.load (k:=0) rfl (QG Js rfl))) (Q9 K rfl)),?_⟩
  have ho:o=[110,111,110,101]:=by assumption
  subst ho
  have hlp:QT [110,111,110,101] nn=0:=by simp[QT]
  refine⟨174,[.ptr c9 0 0],?_,?_,AK _ _,M.qt⟩
  ·rw[show Qp [110,111,110,101] nn=0+1 from congrArg (· +1) hlp,hlp];try rfl
  ·exact PF M.fresh (M.UY (k:=2) rfl)
 refine QD<|Qv<|p1 K (Jm (b:=[117,110,105,111,110]) rfl rfl) fun _ K=>?_;refine Qc 1 K M ?_;intro _ K;refine JS K rfl (fun h15=>?_) fun h15=>?_
 ·refine QD<|Qv ?_;obtain⟨v17,st17,ev17,c9,rfl,hr1,hn1,q17⟩:=AB M.fresh 163;refine p1 K (Qh rfl ev17) fun _ K=>?_;replace M:=M.XJ q17 hr1 hn1;refine au 2 K M ?_;intro _ _ K _ M;refine Jz ⟨.inr rfl,_,(Ud (JG K rfl (M.load (k:=0) rfl (QG Js rfl))) (Q9 K rfl)),?_⟩
  have ho:o=[117,110,105,111,110]:=by assumption
  subst ho
  have hlp:QT [117,110,105,111,110] nn=0:=by simp[QT]
  refine⟨174,[.ptr c9 0 0],?_,?_,AK _ _,M.qt⟩
  ·rw[show Qp [117,110,105,111,110] nn=0+1 from congrArg (· +1) hlp,hlp];try rfl
  ·exact PE M.fresh (M.UY (k:=2) rfl)
 refine QD<|Qv<|p1 K (Jm (b:=[105,110,116,101,114]) rfl rfl) fun _ K=>?_;refine Qc 1 K M ?_;intro _ K;refine JS K rfl (fun h18=>?_) fun h18=>?_
 ·refine QD<|Qv ?_;obtain⟨v20,st20,ev20,c9,rfl,hr1,hn1,q20⟩:=AB M.fresh 164;refine p1 K (Qh rfl ev20) fun _ K=>?_;replace M:=M.XJ q20 hr1 hn1;refine au 2 K M ?_;intro _ _ K _ M;refine Jz ⟨.inr rfl,_,(Ud (JG K rfl (M.load (k:=0) rfl (QG Js rfl))) (Q9 K rfl)),?_⟩
  have ho:o=[105,110,116,101,114]:=by assumption
  subst ho
  have hlp:QT [105,110,116,101,114] nn=0:=by simp[QT]
  refine⟨174,[.ptr c9 0 0],?_,?_,AK _ _,M.qt⟩
  ·rw[show Qp [105,110,116,101,114] nn=0+1 from congrArg (· +1) hlp,hlp];try rfl
  ·exact PD M.fresh (M.UY (k:=2) rfl)
 refine QD<|Qv<|p1 K (Jm (b:=[109,105,110,117,115]) rfl rfl) fun _ K=>?_;refine Qc 1 K M ?_;intro _ K;refine JS K rfl (fun h21=>?_) fun h21=>?_
 ·refine QD<|Qv ?_;obtain⟨v23,st23,ev23,c9,rfl,hr1,hn1,q23⟩:=AB M.fresh 165;refine p1 K (Qh rfl ev23) fun _ K=>?_;replace M:=M.XJ q23 hr1 hn1;refine au 2 K M ?_;intro _ _ K _ M;refine Jz ⟨.inr rfl,_,(Ud (JG K rfl (M.load (k:=0) rfl (QG Js rfl))) (Q9 K rfl)),?_⟩
  have ho:o=[109,105,110,117,115]:=by assumption
  subst ho
  have hlp:QT [109,105,110,117,115] nn=0:=by simp[QT]
  refine⟨174,[.ptr c9 0 0],?_,?_,AK _ _,M.qt⟩
  ·rw[show Qp [109,105,110,117,115] nn=0+1 from congrArg (· +1) hlp,hlp];try rfl
  ·exact PC M.fresh (M.UY (k:=2) rfl)
 refine QD<|Qv<|p1 K (Jm (b:=[115,105,110,103]) rfl rfl) fun _ K=>?_;refine Qc 1 K M ?_;intro _ K;refine JS K rfl (fun h24=>?_) fun h24=>?_
 ·refine au 3 K M ?_;intro _ _ K _ M;refine Jz ⟨.inr rfl,_,(Ud (JG K rfl (M.load (k:=0) rfl (QG Js rfl))) (Q9 K rfl)),?_⟩
  have ho:o=[115,105,110,103]:=by assumption
  subst ho
  have hlp:QT [115,105,110,103] nn=1:=by simp[QT]
  refine⟨166,[],?_,?_,BQ _,M.qt⟩
  ·rw[show Qp [115,105,110,103] nn=1+1 from congrArg (· +1) hlp,hlp];try rfl
  ·exact fun st1 q s x y z hs=>TI q.fresh nn s x y z hs
 refine QD<|Qv<|p1 K (Jm (b:=[102,108,97,103]) rfl rfl) fun _ K=>?_;refine Qc 1 K M ?_;intro _ K;refine JS K rfl (fun h27=>?_) fun h27=>?_
 ·refine au 3 K M ?_;intro _ _ K _ M;refine Jz ⟨.inr rfl,_,(Ud (JG K rfl (M.load (k:=0) rfl (QG Js rfl))) (Q9 K rfl)),?_⟩
  have ho:o=[102,108,97,103]:=by assumption
  subst ho
  have hlp:QT [102,108,97,103] nn=1:=by simp[QT]
  refine⟨167,[],?_,?_,BQ _,M.qt⟩
  ·rw[show Qp [102,108,97,103] nn=1+1 from congrArg (· +1) hlp,hlp];try rfl
  ·exact fun st1 q s x y z hs=>ux q.fresh nn s x y z hs
 refine QD<|Qv<|p1 K (Jm (b:=[108,101,115,115]) rfl rfl) fun _ K=>?_;refine Qc 1 K M ?_;intro _ K;refine JS K rfl (fun h30=>?_) fun h30=>?_
 ·refine au 3 K M ?_;intro _ _ K _ M;refine Jz ⟨.inr rfl,_,(Ud (JG K rfl (M.load (k:=0) rfl (QG Js rfl))) (Q9 K rfl)),?_⟩
  have ho:o=[108,101,115,115]:=by assumption
  subst ho
  have hlp:QT [108,101,115,115] nn=2:=by simp[QT]
  refine⟨168,[],?_,?_,BQ _,M.qt⟩
  ·rw[show Qp [108,101,115,115] nn=2+1 from congrArg (· +1) hlp,hlp];try rfl
  ·exact fun st1 q s x y z hs=>jU q.fresh nn s x y z hs
 refine QD<|Qv<|p1 K (Jm (b:=[112,108,117,115]) rfl rfl) fun _ K=>?_;refine Qc 1 K M ?_;intro _ K;refine JS K rfl (fun h33=>?_) fun h33=>?_
 ·refine Qc 2 K M ?_;intro _ K;obtain⟨v37,st37,ev37,c8,c9,rfl,hr1,hr3,hn1,hn3,hne,q37⟩:=RC M.fresh nn hn;refine p1 K (Qh rfl ev37) fun _ K=>?_;replace M:=M.Pf q37 hr1 hr3 hn1 hn3 hne;refine au 2 K M ?_;intro _ _ K _ M;refine Jz ⟨.inr rfl,_,(Ud (JG K rfl (M.load (k:=0) rfl (QG Js rfl))) (Q9 K rfl)),?_⟩
  have ho:o=[112,108,117,115]:=by assumption
  subst ho
  have hlp:QT [112,108,117,115] nn=nn+1:=by simp[QT]
  refine⟨175,[.ptr c8 0 0,.ptr c9 0 0],?_,?_,BP _ _ _,M.qt⟩
  ·rw[show Qp [112,108,117,115] nn=nn+1+1 from congrArg (· +1) hlp,hlp];try rfl
  ·exact fun st1 q s x y z hs=>DU q.fresh nn s x y z hs hn ((M.UY (k:=2) rfl).later M.fresh q) ((M.UY (k:=3) rfl).later M.fresh q)
 refine QD<|Qv<|p1 K (Jm (b:=[110,117,109]) rfl rfl) fun _ K=>?_;refine Qc 1 K M ?_;intro _ K;refine JS K rfl (fun h38=>?_) fun h38=>?_
 ·refine Qc 2 K M ?_;intro _ K;obtain⟨v42,st42,ev42,c8,c9,rfl,hr1,hr3,hn1,hn3,hne,q42⟩:=Mi M.fresh nn hn;refine p1 K (Qh rfl ev42) fun _ K=>?_;replace M:=M.Pf q42 hr1 hr3 hn1 hn3 hne;refine au 2 K M ?_;intro _ _ K _ M;refine Jz ⟨.inr rfl,_,(Ud (JG K rfl (M.load (k:=0) rfl (QG Js rfl))) (Q9 K rfl)),?_⟩
  have ho:o=[110,117,109]:=by assumption
  subst ho
  have hlp:QT [110,117,109] nn=nn+1:=by simp[QT]
  refine⟨176,[.ptr c9 0 0,.ptr c8 0 0],?_,?_,BP _ _ _,M.qt⟩
  ·rw[show Qp [110,117,109] nn=nn+1+1 from congrArg (· +1) hlp,hlp];try rfl
  ·exact fun st1 q s x y z hs=>Ri q.fresh nn s x y z hs hn ((M.UY (k:=2) rfl).later M.fresh q) ((M.UY (k:=3) rfl).later M.fresh q)
 refine au 3 K M ?_;intro _ _ K _ M;refine Jz ⟨.inr rfl,_,(Ud (JG K rfl (M.load (k:=0) rfl (QG Js rfl))) (Q9 K rfl)),?_⟩
 exfalso
 unfold Wo at hat
 simp_all

theorem NS(hf:Qj st){c11 l v1:Nat}(hr:Q4 st.h.get c11 0 [iN l])(hl:l≤64)(hv:v1≤6): ∃v st',Ev Tryz.prog Q5 139 [iN v1,.ptr c11 0 0] st v st'∧v=.bool (YI l v1)∧Qt st st':=by
 refine JI Tryz.func139 Tryz.ntmps139 fun T K=>?_;have M:=Mem.start hf;refine Qc 1 K M ?_;intro _ K;refine p1 K (Qd rfl (Q0 (M.JK QA hr.Jf) (Qf Qr rfl))) fun _ K=>?_;refine Qc 1 K M ?_;intro _ K;refine p1 K (X3 (a:=l) (n:=v1) rfl rfl Qe) fun _ K=>p1 K (X5 (a:=(l/2^v1)) rfl rfl (Nat.le_trans (Nat.div_le_self _ _) Qe)) fun _ K=>?_;refine Qc 2 K M ?_;exact⟨rfl,M.qt⟩

theorem wM {R : WM} (hf : Qj st) (hR : YH R st.h.get) {o : List Nat} {an bn gn nn k : Nat} {l : List Cr} {cs : List AV} (hr : Y9 R (.mk o ((an : Nat) : Int) ((bn : Nat) : Int) ((gn : Nat) : Int) ((nn : Nat) : Int) l) cs) (hat : Wo o) (hn : nn ≤ 20) (ha6 : an ≤ 6) (hb6 : bn ≤ 6) (hg6 : gn ≤ 6) (hk6 : k ≤ 6) (hsz : ZM (.mk o ((an : Nat) : Int) ((bn : Nat) : Int) ((gn : Nat) : Int) ((nn : Nat) : Int) l) ≤ 2000) (hc : Jh (.mk o ((an : Nat) : Int) ((bn : Nat) : Int) ((gn : Nat) : Int) ((nn : Nat) : Int) l) ((k : Nat) : Int) = true) : ∃ v st', Ev Tryz.prog Q5 110 [.agg cs, iN k] st v st' ∧ ∃ dp F m, v = .tup [.ptr dp 0 0, iZ 0] ∧ JA (Xp o an bn gn nn k) m ∧ Ya st' F dp m ∧ ZT st st' F ∧ Qt st st' := by
 have hr0 := hr;obtain ⟨kc, ls, rfl, hK⟩ := hr.Ym;have hln := hK.ln;have hbn := hK.E0;have hp6 := JH hk6;have hll := EX (o := o) nn hn;have hsp : Qp o nn = QT o nn + 1 := rfl;refine JI Tryz.func110 Tryz.ntmps110 fun T K => ?_;have M := Mem.start hf;refine QD <| Qv ?_;refine Jv K M rfl (Qa rfl (Qa rfl (Qa rfl (Qa rfl (Qa rfl (Qa hK.cell Qz)))))) QE fun c2 _ _ K M => ?_;refine Qc 3 K M ?_;intro _ K;obtain ⟨v18, st18, ev18, f, fc, rfl, hmach, hfe, q18⟩ := qd M.fresh (M.YH hR) hr0 hat hn;refine p1 K (Qh rfl ev18) fun _ K => ?_;replace M := M.quiet q18;have hq0 := M.qt; have hc2 := M.UY (k := 0) rfl; have hfm := M.fresh;replace hR := M.YH hR;obtain ⟨st, rfl⟩ : ∃ s : St, s = st18 := ⟨_, rfl⟩;have B := Qk.start hfm;replace M := B.mem;refine au 9 K M ?_;intro c6 _ _ K _ M;refine pg K rfl rfl (Qd rfl (Q0 ((B.step M).Y3 hfm hc2.Jf id) (QG QX rfl))) fun _ K => ?_;refine Qc 1 K M ?_;intro _ K;obtain ⟨v26, st26, ev26, rfl, q26⟩ := Tp M.fresh (fun c m l hr => (B.step M).Y3 hfm (hR c m l hr) id) hr0 (m := ((k : Nat) : Int)) Qe Qe hsz hc;refine pg K rfl rfl (Qh rfl ev26) fun _ K => ?_;replace M := M.quiet q26;refine au 7 K M ?_;intro c8 _ _ K _ M;replace B := (B.step M).V1;have M := B.mem;refine Qc 4 K M ?_;intro _ K;refine Je (fun mm1 T st9 => ∃ (i : Nat) (vs : List AV) (Fr : Fp) (ka : AV) (Aa : QP) (kr : AV) (Ar : QP), mm1 = Qp o nn + 1 - i ∧ QZ [(1, iN k), (2, .ptr c2 0 0), (4, .nilp), (5, iZ 0), (6, .ptr c6 0 0), (8, .ptr c8 0 0), (33, iZ (((((Qp o nn) : Nat) : Int) + 1))), (34, iN i)] T ∧ Qk st Xu st9 ((c8, 0, [iN k, ka, kr]) :: (c6, 0, [(.fn f [] fc), iZ (QT o nn : Nat), iZ (Qp o nn : Nat)]) :: (Aa ++ (Ar ++ []))) [EC Fr vs ((List.range i).map (PK o nn an bn gn k))] ∧ i ≤ Qp o nn + 1 ∧ Acc 0 1 Aa ka (bC ((List.range i).map fun s => decide (((s : Nat) : Int) = ((QT o nn : Nat) : Int)))) ∧ YS Ar kr vs) (fun mm1 T st9 hI => ?_) _ _ _ ⟨0, [], _, .nils, [], .nils, [], rfl, (K.sub rfl), (B.step M).less (.refl _), (Nat.zero_le _), .none, .none⟩;obtain ⟨i, vs, Fr, ka, Aa, kr, Ar, rfl, K, B, hi, hAa, hAr⟩ := hI;have M := B.mem;refine Qc 1 K M ?_;intro _ K;refine JS K rfl (fun h35 => ?_) fun h35 => ?_
 · refine Qc 4 K M ?_;intro _ K;refine p1 K (Y5 (n := k) rfl rfl Qe) fun _ K => ?_;refine Qc 1 K M ?_;intro _ K;refine Je (fun mm2 T st9 => ∃ (c : Nat) (kw : AV) (Aw : QP), mm2 = 2 ^ k - c ∧ QZ [(1, iN k), (2, .ptr c2 0 0), (4, .nilp), (5, iZ 0), (6, .ptr c6 0 0), (8, .ptr c8 0 0), (9, iN i), (10, kw), (33, iZ (((((Qp o nn) : Nat) : Int) + 1))), (34, iN i), (35, .bool (decide (((i : Nat) : Int) < ((((Qp o nn) : Nat) : Int) + 1)))), (38, iZ (2 ^ k : Nat)), (39, iN c)] T ∧ Qk st Xu st9 ((c8, 0, [iN k, ka, kr]) :: (c6, 0, [(.fn f [] fc), iZ (QT o nn : Nat), iZ (Qp o nn : Nat)]) :: (Aa ++ (Ar ++ (Aw ++ [])))) [EC Fr vs ((List.range i).map (PK o nn an bn gn k))] ∧ c ≤ 2 ^ k ∧ Acc 0 1 Aw kw (zC ((List.range c).map fun l => ((E6 o nn an bn gn i l : Nat) : Int)))) (fun mm2 T st9 hI => ?_) _ _ _ ⟨0, .nils, [], rfl, (K.sub rfl), (B.step M).less (.refl _), (Nat.zero_le _), .none⟩;obtain ⟨c, kw, Aw, rfl, K, B, hcK, hAw⟩ := hI;have M := B.mem;refine Qc 1 K M ?_;intro _ K;refine JS K rfl (fun h40 => ?_) fun h40 => ?_
   · refine au 3 K M ?_;intro c11 _ _ K _ M;refine p1 K (X4 rfl rfl) fun _ K => ?_;refine Qc 6 K M ?_;intro _ K;refine JS K rfl (fun h46 => ?_) fun h46 => ?_
     · refine QF (l := [(3, 0), (4, 0), (5, 0), (6, 0), (7, 0), (8, 0), (9, 1), (10, 0), (11, 0), (12, 0), (13, 2), (14, 0), (0, 0), (1, 3), (2, 0), (15, 0), (16, 0)]) (by kernel_rfl) ?_;have Mq := M;have Mz0 := M;have Bz0 := B;refine Jc 2 K M ?_;intro _ K;refine q1 rfl K (Qd rfl (Q0 ((B.step M).Y3 hfm hc2.Jf id) (Qf Qr rfl))) fun _ K => ?_;have r11 := M.UY (k := 0) rfl;obtain ⟨v53, st53, ev53, rfl, q53⟩ := NS M.fresh (v1 := an) (l := c) r11 Qe Qe;refine qA rfl K (Xa rfl rfl ev53) fun _ K => ?_;replace M := M.quiet q53;have Mp := Mq;have Mq := M;have Mz1 := M;have Bz1 := B;refine Jc 2 K M ?_;intro _ K;refine Jl rfl K rfl (Q0 ((B.step M).Y3 hfm hc2.Jf id) (Qf Qr rfl)) (Q0 ((B.step Mp).Y3 hfm hc2.Jf id) (Qf Qr rfl)) (JU rfl) rfl QE fun _ K => ?_;have r11 := M.UY (k := 0) rfl;obtain ⟨v57, st57, ev57, rfl, q57⟩ := NS M.fresh (v1 := bn) (l := c) r11 Qe Qe;refine qA rfl K (Xa rfl rfl ev57) fun _ K => ?_;replace M := M.quiet q57;have Mp := Mq;have Mq := M;have Mz2 := M;have Bz2 := B;refine Jc 2 K M ?_;intro _ K
       refine Ws rfl K rfl (Q0 ((B.step M).Y3 hfm hc2.Jf id) (Qf Qr rfl)) QA (by intro s hs; simp only [List.take_succ_cons, List.take_zero, List.mem_cons, List.not_mem_nil, or_false] at hs; rcases hs with rfl | rfl <;> first | exact (Q0 ((Bz1.step Mz1).Y3 hfm hc2.Jf id) (Qf Qr rfl)) | exact (Q0 ((Bz0.step Mz0).Y3 hfm hc2.Jf id) (Qf Qr rfl))) (JU rfl) rfl QE fun _ K => ?_
       have r11 := M.UY (k := 0) rfl;obtain ⟨v61, st61, ev61, rfl, q61⟩ := NS M.fresh (v1 := gn) (l := c) r11 Qe Qe;refine qA rfl K (Xa rfl rfl ev61) fun _ K => ?_;replace M := M.quiet q61;have Mp := Mq;have Mq := M;have Mz3 := M;have Bz3 := B;refine Jc 1 K M ?_;intro _ K
       refine Ws rfl K rfl (M.load (k := 2) rfl (Qf J7 rfl)) QA (by intro s hs; simp only [List.take_succ_cons, List.take_zero, List.mem_cons, List.not_mem_nil, or_false] at hs; rcases hs with rfl | rfl | rfl <;> first | exact (Mz2.load (k := 2) rfl (Qf J7 rfl)) | exact (Mz1.load (k := 2) rfl (Qf J7 rfl)) | exact (Mz0.load (k := 2) rfl (Qf J7 rfl))) hfe rfl QE fun _ K => ?_
       refine q1 rfl K (Qg rfl) fun _ K => ?_;obtain ⟨v62, st62, ev62, rfl, q62⟩ := hmach _ (B.step M).qt i (YI c an) (YI c bn) (YI c gn) Qe;refine qA rfl K (Xa rfl rfl ev62) fun _ K => ?_;replace M := M.quiet q62;have Mp := Mq;have Mq := M;have Mz4 := M;have Bz4 := B;refine q1 rfl K (U6 rfl) fun _ K => QH ?_;show W _ _ _ _ _ _ _;refine Qc 2 K M ?_;intro _ K;refine Qq (K.QJ rfl) (fun h64 => ?_) (fun h64 => ?_)
       · have hb64 := h64;replace h64 := of_decide_eq_true h64;refine au 6 K M ?_;intro c69 _ _ K _ M;refine Jg (k2 := 0) (L := ((c69, 0, [iZ (Qp o nn : Nat)]) :: (c11, 0, [iN c]) :: (c8, 0, [iN k, ka, kr]) :: (c6, 0, [(.fn f [] fc), iZ (QT o nn : Nat), iZ (Qp o nn : Nat)]) :: (Aa ++ (Ar ++ [])))) (A := Aw) (B := []) K (Mem.cast (M := ((c69, 0, [iZ (Qp o nn : Nat)]) :: (c11, 0, [iN c]) :: (c8, 0, [iN k, ka, kr]) :: (c6, 0, [(.fn f [] fc), iZ (QT o nn : Nat), iZ (Qp o nn : Nat)]) :: (Aa ++ (Ar ++ (Aw ++ []))))) (M' := ((c69, 0, [iZ (Qp o nn : Nat)]) :: (c11, 0, [iN c]) :: (c8, 0, [iN k, ka, kr]) :: (c6, 0, [(.fn f [] fc), iZ (QT o nn : Nat), iZ (Qp o nn : Nat)]) :: (Aa ++ (Ar ++ []))) ++ (Aw ++ [])) M Uu) hAw QM rfl rfl rfl rfl (by rw [Qn, List.length_map, List.length_range]; omega) rfl fun ks70 A70 _ _ K hA70 M => ?_;simp only [List.append_assoc, List.cons_append, List.nil_append, List.set_cons_zero, List.set_cons_succ] at M;have Mz5 := M;have Bz5 := B;refine Qc 3 K M ?_;intro _ K
         have hnx : iZ (E6 o nn an bn gn i c : Nat) = iZ (Qp o nn : Nat) := by
           refine congrArg (AV.int .i64) ?_;unfold E6
           first
           | exact absurd rfl h64
           | (rw [if_neg Qe]; done)
           | (rw [if_pos Qe, if_pos (by assumption)]; done)
           | (rw [if_pos Qe, if_neg (by assumption)]
              rcases qH hat hn (show i < Qp o nn by omega) (YI c an) (YI c bn) (YI c gn) with ⟨h1, _⟩ | ⟨t, h1, _⟩
              · exact absurd h1 (by assumption)
              · rw [h1]; rfl)
         have hrs : (List.range (c + 1)).map (fun l => ((E6 o nn an bn gn i l : Nat) : Int)) = (List.range c).map (fun l => ((E6 o nn an bn gn i l : Nat) : Int)) ++ [((E6 o nn an bn gn i c : Nat) : Int)] := by rw [List.range_succ, List.map_append]; rfl
         exact ⟨_, Qe, c + 1, ks70, A70, rfl, (K.sub rfl), (B.step M).less (.cons _ (.cons _ (.refl _))), Qe, (by rw [hrs, JY, show zC [((E6 o nn an bn gn i c : Nat) : Int)] = [[iZ (E6 o nn an bn gn i c : Nat)]] from rfl, hnx]; exact hA70)⟩
       have hb64 := h64;replace h64 := of_decide_eq_false h64;refine au 3 K M ?_;intro c69 _ _ K _ M;refine Jg (k2 := 0) (L := ((c69, 0, [iZ ((Jp o nn i (YI c an) (YI c bn) (YI c gn)))]) :: (c11, 0, [iN c]) :: (c8, 0, [iN k, ka, kr]) :: (c6, 0, [(.fn f [] fc), iZ (QT o nn : Nat), iZ (Qp o nn : Nat)]) :: (Aa ++ (Ar ++ [])))) (A := Aw) (B := []) K (Mem.cast (M := ((c69, 0, [iZ ((Jp o nn i (YI c an) (YI c bn) (YI c gn)))]) :: (c11, 0, [iN c]) :: (c8, 0, [iN k, ka, kr]) :: (c6, 0, [(.fn f [] fc), iZ (QT o nn : Nat), iZ (Qp o nn : Nat)]) :: (Aa ++ (Ar ++ (Aw ++ []))))) (M' := ((c69, 0, [iZ ((Jp o nn i (YI c an) (YI c bn) (YI c gn)))]) :: (c11, 0, [iN c]) :: (c8, 0, [iN k, ka, kr]) :: (c6, 0, [(.fn f [] fc), iZ (QT o nn : Nat), iZ (Qp o nn : Nat)]) :: (Aa ++ (Ar ++ []))) ++ (Aw ++ [])) M Uu) hAw QM rfl rfl rfl rfl (by rw [Qn, List.length_map, List.length_range]; omega) rfl fun ks70 A70 _ _ K hA70 M => ?_;simp only [List.append_assoc, List.cons_append, List.nil_append, List.set_cons_zero, List.set_cons_succ] at M;have Mz5 := M;have Bz5 := B;refine Qc 3 K M ?_;intro _ K
       have hnx : iZ (E6 o nn an bn gn i c : Nat) = iZ ((Jp o nn i (YI c an) (YI c bn) (YI c gn))) := by
         refine congrArg (AV.int .i64) ?_;unfold E6
         first
         | exact absurd rfl h64
         | (rw [if_neg Qe]; done)
         | (rw [if_pos Qe, if_pos (by assumption)]; done)
         | (rw [if_pos Qe, if_neg (by assumption)]
            rcases qH hat hn (show i < Qp o nn by omega) (YI c an) (YI c bn) (YI c gn) with ⟨h1, _⟩ | ⟨t, h1, _⟩
            · exact absurd h1 (by assumption)
            · rw [h1]; rfl)
       have hrs : (List.range (c + 1)).map (fun l => ((E6 o nn an bn gn i l : Nat) : Int)) = (List.range c).map (fun l => ((E6 o nn an bn gn i l : Nat) : Int)) ++ [((E6 o nn an bn gn i c : Nat) : Int)] := by rw [List.range_succ, List.map_append]; rfl
       exact ⟨_, Qe, c + 1, ks70, A70, rfl, (K.sub rfl), (B.step M).less (.cons _ (.cons _ (.refl _))), Qe, (by rw [hrs, JY, show zC [((E6 o nn an bn gn i c : Nat) : Int)] = [[iZ (E6 o nn an bn gn i c : Nat)]] from rfl, hnx]; exact hA70)⟩
     refine Qc 2 K M ?_;intro _ K;refine Qq (K.QJ rfl) (fun h64 => ?_) (fun h64 => ?_)
     · have hb64 := h64;replace h64 := of_decide_eq_true h64;refine au 6 K M ?_;intro c69 _ _ K _ M;refine Jg (k2 := 0) (L := ((c69, 0, [iZ (Qp o nn : Nat)]) :: (c11, 0, [iN c]) :: (c8, 0, [iN k, ka, kr]) :: (c6, 0, [(.fn f [] fc), iZ (QT o nn : Nat), iZ (Qp o nn : Nat)]) :: (Aa ++ (Ar ++ [])))) (A := Aw) (B := []) K (Mem.cast (M := ((c69, 0, [iZ (Qp o nn : Nat)]) :: (c11, 0, [iN c]) :: (c8, 0, [iN k, ka, kr]) :: (c6, 0, [(.fn f [] fc), iZ (QT o nn : Nat), iZ (Qp o nn : Nat)]) :: (Aa ++ (Ar ++ (Aw ++ []))))) (M' := ((c69, 0, [iZ (Qp o nn : Nat)]) :: (c11, 0, [iN c]) :: (c8, 0, [iN k, ka, kr]) :: (c6, 0, [(.fn f [] fc), iZ (QT o nn : Nat), iZ (Qp o nn : Nat)]) :: (Aa ++ (Ar ++ []))) ++ (Aw ++ [])) M Uu) hAw QM rfl rfl rfl rfl (by rw [Qn, List.length_map, List.length_range]; omega) rfl fun ks70 A70 _ _ K hA70 M => ?_;simp only [List.append_assoc, List.cons_append, List.nil_append, List.set_cons_zero, List.set_cons_succ] at M;refine Qc 3 K M ?_;intro _ K
       have hnx : iZ (E6 o nn an bn gn i c : Nat) = iZ (Qp o nn : Nat) := by
         refine congrArg (AV.int .i64) ?_;unfold E6
         first
         | exact absurd rfl h64
         | (rw [if_neg Qe]; done)
         | (rw [if_pos Qe, if_pos (by assumption)]; done)
         | (rw [if_pos Qe, if_neg (by assumption)]
            rcases qH hat hn (show i < Qp o nn by omega) (YI c an) (YI c bn) (YI c gn) with ⟨h1, _⟩ | ⟨t, h1, _⟩
            · exact absurd h1 (by assumption)
            · rw [h1]; rfl)
       have hrs : (List.range (c + 1)).map (fun l => ((E6 o nn an bn gn i l : Nat) : Int)) = (List.range c).map (fun l => ((E6 o nn an bn gn i l : Nat) : Int)) ++ [((E6 o nn an bn gn i c : Nat) : Int)] := by rw [List.range_succ, List.map_append]; rfl
       exact ⟨_, Qe, c + 1, ks70, A70, rfl, (K.sub rfl), (B.step M).less (.cons _ (.cons _ (.refl _))), Qe, (by rw [hrs, JY, show zC [((E6 o nn an bn gn i c : Nat) : Int)] = [[iZ (E6 o nn an bn gn i c : Nat)]] from rfl, hnx]; exact hA70)⟩
     have hb64 := h64;replace h64 := of_decide_eq_false h64;refine au 3 K M ?_;intro c69 _ _ K _ M;refine Jg (k2 := 0) (L := ((c69, 0, [iZ (-1)]) :: (c11, 0, [iN c]) :: (c8, 0, [iN k, ka, kr]) :: (c6, 0, [(.fn f [] fc), iZ (QT o nn : Nat), iZ (Qp o nn : Nat)]) :: (Aa ++ (Ar ++ [])))) (A := Aw) (B := []) K (Mem.cast (M := ((c69, 0, [iZ (-1)]) :: (c11, 0, [iN c]) :: (c8, 0, [iN k, ka, kr]) :: (c6, 0, [(.fn f [] fc), iZ (QT o nn : Nat), iZ (Qp o nn : Nat)]) :: (Aa ++ (Ar ++ (Aw ++ []))))) (M' := ((c69, 0, [iZ (-1)]) :: (c11, 0, [iN c]) :: (c8, 0, [iN k, ka, kr]) :: (c6, 0, [(.fn f [] fc), iZ (QT o nn : Nat), iZ (Qp o nn : Nat)]) :: (Aa ++ (Ar ++ []))) ++ (Aw ++ [])) M Uu) hAw QM rfl rfl rfl rfl (by rw [Qn, List.length_map, List.length_range]; omega) rfl fun ks70 A70 _ _ K hA70 M => ?_;simp only [List.append_assoc, List.cons_append, List.nil_append, List.set_cons_zero, List.set_cons_succ] at M;refine Qc 3 K M ?_;intro _ K
     have hnx : iZ (E6 o nn an bn gn i c : Nat) = iZ (-1) := by
       refine congrArg (AV.int .i64) ?_;unfold E6
       first
       | exact absurd rfl h64
       | (rw [if_neg Qe]; done)
       | (rw [if_pos Qe, if_pos (by assumption)]; done)
       | (rw [if_pos Qe, if_neg (by assumption)]
          rcases qH hat hn (show i < Qp o nn by omega) (YI c an) (YI c bn) (YI c gn) with ⟨h1, _⟩ | ⟨t, h1, _⟩
          · exact absurd h1 (by assumption)
          · rw [h1]; rfl)
     have hrs : (List.range (c + 1)).map (fun l => ((E6 o nn an bn gn i l : Nat) : Int)) = (List.range c).map (fun l => ((E6 o nn an bn gn i l : Nat) : Int)) ++ [((E6 o nn an bn gn i c : Nat) : Int)] := by rw [List.range_succ, List.map_append]; rfl
     exact ⟨_, Qe, c + 1, ks70, A70, rfl, (K.sub rfl), (B.step M).less (.cons _ (.cons _ (.refl _))), Qe, (by rw [hrs, JY, show zC [((E6 o nn an bn gn i c : Nat) : Int)] = [[iZ (E6 o nn an bn gn i c : Nat)]] from rfl, hnx]; exact hA70)⟩
   refine QW ?_;show W _ _ _ _ _ _ _;refine QD ?_
   have hce : c = 2 ^ k := by omega
   rw [hce] at hAw;refine Qc 1 K M ?_;intro _ K;refine p1 K (Qd rfl (M.load (k := 0) rfl (Qf Q6 rfl))) fun _ K => ?_;refine Qc 1 K M ?_;intro _ K;refine ZV K M QU Uv rfl ((JC rfl hAw.cell rfl).trans rfl) (Qa hAw.cell Qz) rfl rfl fun c75 _ _ K M => ?_;refine YL (k2 := 0) (L := ((c75, 0, [kw]) :: (c8, 0, [iN k, ka, kr]) :: (c6, 0, [(.fn f [] fc), iZ (QT o nn : Nat), iZ (Qp o nn : Nat)]) :: (Aa ++ []))) (A := Ar) (B := (Aw ++ [])) K (Mem.cast (M := ((c75, 0, [kw]) :: (c8, 0, [iN k, ka, kr]) :: (c6, 0, [(.fn f [] fc), iZ (QT o nn : Nat), iZ (Qp o nn : Nat)]) :: (Aa ++ (Ar ++ (Aw ++ []))))) (M' := ((c75, 0, [kw]) :: (c8, 0, [iN k, ka, kr]) :: (c6, 0, [(.fn f [] fc), iZ (QT o nn : Nat), iZ (Qp o nn : Nat)]) :: (Aa ++ [])) ++ (Ar ++ (Aw ++ []))) M Uu) hAr QU rfl rfl rfl (by have := YR.ln ((B.step M).at_ (k := 0) rfl); rw [List.length_map, List.length_range] at this; omega) rfl fun ks76 A76 _ _ K hA76 _ M => ?_;simp only [List.append_assoc, List.cons_append, List.nil_append, List.set_cons_zero, List.set_cons_succ] at M;refine Qc 1 K M ?_;intro _ K;refine Jj (k := 1) K M rfl rfl rfl Uz (hA76.cell) rfl fun _ M => ?_;refine au 7 K M ?_;intro c84 _ _ K _ M;refine Jg (k2 := 0) (L := [(c84, 0, [.bool (decide (((i : Nat) : Int) = (((QT o nn) : Nat) : Int)))]), (c75, 0, [kw]), (c8, 0, [iN k, ka, ks76]), (c6, 0, [(.fn f [] fc), iZ (QT o nn : Nat), iZ (Qp o nn : Nat)])]) (A := Aa) (B := (A76 ++ (Aw ++ []))) K M hAa J5 rfl rfl rfl rfl (by rw [Jy, List.length_map, List.length_range]; omega) rfl fun ks85 A85 _ _ K hA85 M => ?_;refine Qc 1 K M ?_;intro _ K;refine Jj (k := 2) K M rfl rfl rfl UF (hA85.cell) rfl fun _ M => ?_;refine Qc 2 K M ?_;intro _ K;replace B := B.step M;obtain ⟨Fr, B⟩ := Qk.ZF (L := ((c84, 0, [.bool (decide (((i : Nat) : Int) = (((QT o nn) : Nat) : Int)))]) :: (c75, 0, [kw]) :: (c8, 0, [iN k, ks85, ks76]) :: (c6, 0, [(.fn f [] fc), iZ (QT o nn : Nat), iZ (Qp o nn : Nat)]) :: (A85 ++ (A76 ++ [])))) (A := Aw) (B := []) (B.cast Uu) hAw (fun z hz => by obtain ⟨l, _, rfl⟩ := List.mem_map.1 hz; have := jz (a := an) (b := bn) (d := gn) hat hn i l; omega);replace B := B.cast (M' := ((c84, 0, [.bool (decide (((i : Nat) : Int) = (((QT o nn) : Nat) : Int)))]) :: (c75, 0, [kw]) :: (c8, 0, [iN k, ks85, ks76]) :: (c6, 0, [(.fn f [] fc), iZ (QT o nn : Nat), iZ (Qp o nn : Nat)]) :: (A85 ++ (A76 ++ [])))) Uu;have M := B.mem
   have hrr : (List.range (i + 1)).map (PK o nn an bn gn k) = (List.range i).map (PK o nn an bn gn k) ++ [(List.range (2 ^ k)).map fun l => ((E6 o nn an bn gn i l : Nat) : Int)] := by rw [List.range_succ, List.map_append]; rfl
   rw [← hrr] at B;have M := B.mem;exact ⟨_, Qe, i + 1, _, _, ks85, A85, ks76, A76, rfl, (K.sub rfl), (B.step M).less (.cons _ (.cons _ (.refl _))), Qe, (by rw [List.range_succ, List.map_append, XS]; exact hA85), hA76⟩
 refine QW ?_;show W _ _ _ _ _ _ _;refine Qc 1 K M ?_;intro _ K;replace B := B.step M
 have hie : i = Qp o nn + 1 := by omega
 subst hie;have hwf := qW (a := an) (b := bn) (d := gn) (k := k) hat hn hk6;obtain ⟨Fo, B⟩ := Qk.GR (L := ((c8, 0, [iN k, ka, kr]) :: (c6, 0, [(.fn f [] fc), iZ (QT o nn : Nat), iZ (Qp o nn : Nat)]) :: (Aa ++ []))) (A := Ar) (B := []) (B.cast Uu) hAr;replace B := B.cast (M' := ((c8, 0, [iN k, ka, kr]) :: (c6, 0, [(.fn f [] fc), iZ (QT o nn : Nat), iZ (Qp o nn : Nat)]) :: (Aa ++ []))) Uu;have M := B.mem;obtain ⟨v90, st90, ev90, dq2, F2, rfl, hD2, nf2, q90⟩ := WL (a := Vw o an bn gn nn k) B.fresh hwf (Mem.Yl (L := [(c8, 0, [iN k, ka, kr]), (c6, 0, [(.fn f [] fc), iZ (QT o nn : Nat), iZ (Qp o nn : Nat)])]) (A := Aa) (B := []) M hAa) (Xy.r (B.at_ (k := 0) rfl));refine p1 K (Qh rfl ev90) fun _ K => ?_;replace B := B.new (o := AW F2 dq2 (Vw o an bn gn nn k)) q90 hD2.at_ nf2;have M := B.mem;refine Qc 7 K M ?_;intro _ K;refine Qq (K.QJ rfl) (fun h94 => ?_) (fun h94 => ?_)
 · have hb94 := h94
   replace h94 : ¬ (0 = 0) := by first | exact of_decide_eq_false h94 | exact yF h94 | simpa using h94
   exfalso; omega
 have hb94 := h94
 replace h94 : (0 = 0) := by first | exact of_decide_eq_true h94 | exact yT h94 | simpa using h94
 refine Qc 1 K M ?_;intro _ K;replace B := B.step M;obtain ⟨v97, st97, ev97, dp3, F3, m, rfl, hlm, hD3, nf3, q97⟩ := SQ B.fresh (B.Tl (k := 0) rfl);refine p1 K (Qh rfl ev97) fun _ K => ?_;have hle3 := B.le;replace B := B.quiet q97;have M := B.mem;refine Qc 4 K M ?_;exact ⟨dp3, F3, m, rfl, hlm.atom hat hn, hD3, fun c hc => ⟨Nat.le_trans hq0.le (Nat.le_trans hle3 (nf3 c hc).1), (nf3 c hc).2⟩, hq0.trans (B.step M).qt⟩
end Go.Proofs.YtiknomepbklibaaGreatDoor
end
