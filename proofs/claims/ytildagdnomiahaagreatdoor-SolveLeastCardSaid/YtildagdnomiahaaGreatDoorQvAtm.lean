/-
  Atoms: the program's machines, its automata of atoms.
-/
import Derived.Test.YtildagdnomiahaaGreatDoorQvCof
import Derived.Test.YtildagdnomiahaaGreatDoorQvMnd
namespace Go.Proofs.YtildagdnomiahaaGreatDoor
open Go Go.RowKit
set_option maxHeartbeats 8000000
set_option linter.unusedVariables false
set_option linter.unusedSimpArgs false
set_option linter.unnecessarySimpa false
set_option linter.unusedSectionVars false
set_option maxRecDepth 100000
variable {M:QP} {c c1 c3 m n0:Nat} {h0:Hp} {l:List AV} {st:St}

def FE(st:St)(f:FuncId)(fc:List AV)(o:List Nat)(n:Nat):Prop:= ∀st1,Qt st st1→ ∀(s:Nat) (x y z:Bool),s<Qo o n→ ∃v st2,QV f ([]++([.int .i64 (s:Nat),.bool x,.bool y,.bool z]++fc)) st1 v st2∧v=.int .i64 (QQ o n s x y z)∧Qt st1 st2
def FC(f:FuncId)(p:Bool→Bool→Bool→Bool):Prop:= ∀st1,Qh st1→ ∀x y z:Bool,∃v st2,QV f [.bool x,.bool y,.bool z] st1 v st2∧v=.bool (p x y z)∧Qt st1 st2
theorem B7(f:Nat):HI (.fn f [] []) (.fn f [] [])=true:=by
 have h: ∀n:Nat,Nat.beq n n=true:=fun n=>by simp
 show Qj (Nat.beq f f) (Qj (EI [] []) (EI [] []) false) false=true;rw[h];rfl
theorem A5(f c:Nat):HI (.fn f [] [.ptr c 0 0]) (.fn f [] [.ptr c 0 0])=true:=by
 have h: ∀n:Nat,Nat.beq n n=true:=fun n=>by simp
 show Qj (Nat.beq f f) (Qj (EI [] []) (Qj (Qj (Nat.beq c c) true false) true false) false) false=true;rw[h,h];rfl
theorem Qu.later{st1:St}(r:Qu st.h.get c m l)(hf:Qh st)(q:Qt st st1):Qu st1.h.get c m l:=r.frame (q.J5 c (r.lt hf))
theorem Fe(n s:Nat)(x y z:Bool):QQ [115,105,110,103] n s x y z=(if x=false then((s:Nat):Int)else if s=0 then 1 else-1):=by
 unfold QQ;rw[if_neg Q9,if_neg Q9,if_neg Q9,if_neg Q9,if_neg Q9,if_neg Q9,if_pos rfl]
theorem W8(n s:Nat)(x y z:Bool):QQ [102,108,97,103] n s x y z=(if s=1∨x=true then 1 else-1):=by
 unfold QQ;rw[if_neg Q9,if_neg Q9,if_neg Q9,if_neg Q9,if_neg Q9,if_neg Q9,if_neg Q9,if_pos rfl]
theorem U2(n s:Nat)(x y z:Bool):QQ [108,101,115,115] n s x y z=(if x=false∧y=false then((s:Nat):Int)else if s=0∧x=true∧y=false then 1 else if s=1∧y=true∧x=false then 2 else-1):=by
 unfold QQ;rw[if_neg Q9,if_neg Q9,if_neg Q9,if_neg Q9,if_neg Q9,if_neg Q9,if_neg Q9,if_neg Q9,if_pos rfl]
theorem Jr(n s:Nat)(x y z:Bool):QQ [112,108,117,115] n s x y z=(if s=0∧x=true∧y=decide (n=0)then 1 else if(s=0∧x=false∧y=false)∨(s=n+1∧x=false∧y=false)then((s:Nat):Int)else if 0<s∧s<n+1∧x=false∧y=decide (s=n)then((s+1:Nat):Int)else-1):=by
 unfold QQ;rw[if_neg Q9,if_neg Q9,if_neg Q9,if_neg Q9,if_neg Q9,if_neg Q9,if_neg Q9,if_neg Q9,if_neg Q9,if_pos rfl]
theorem Ut(n s:Nat)(x y z:Bool):QQ [110,117,109] n s x y z=(if s<n+1∧x=decide (s=n)then((s+1:Nat):Int)else if s=n+1∧x=false then((n+1:Nat):Int)else-1):=by
 unfold QQ;rw[if_neg Q9,if_neg Q9,if_neg Q9,if_neg Q9,if_neg Q9,if_neg Q9,if_neg Q9,if_neg Q9,if_neg Q9,if_neg Q9]
theorem Mem.Xt{X:List Nat}{st':St}(h:Mem h0 n0 X st M)(q:Qt st st')(r:Qu st'.h.get c m l)(hc:st.n≤c):Mem h0 n0 X st' (M++[(c,m,l)]):=by
 have h1:=h.quiet q;refine⟨h1.fresh,h1.le,h1.base,fun c' m' l' hm=>?_,fun c' m' l' hm=>?_,fun c' m' l' hm=>?_,?_,h1.J5⟩
 ·rcases List.mem_append.1 hm with hm|hm
  ·exact h1.row c' m' l' hm
  ·have e:=List.mem_singleton.1 hm
   injection e with e1 e;injection e with e2 e3
   subst e1 e2 e3;exact r
 ·rcases List.mem_append.1 hm with hm|hm
  ·exact h1.lt c' m' l' hm
  ·have e:=List.mem_singleton.1 hm
   injection e with e1 e
   rw[e1];exact r.lt q.fresh
 ·rcases List.mem_append.1 hm with hm|hm
  ·exact h1.own c' m' l' hm
  ·have e:=List.mem_singleton.1 hm
   injection e with e1 e
   rw[e1];exact .inl (Nat.le_trans h.le hc)
 ·rw[List.map_append];refine List.nodup_append.2 ⟨h1.nodup,by simp,fun a ha b hb e=>?_⟩;subst e;obtain⟨⟨c',m',l'⟩,e1,e2⟩:=List.mem_map.1 ha
  have e3:a=c:=by simpa using hb
  have e2:c'=a:=e2;have:=h.lt c' m' l' e1;omega
theorem Mem.jH{k:Nat}(h:Mem h0 n0 [] st M)(hk:M[k]? =some (c,m,l)):n0≤c:=(h.own c m l (List.mem_of_getElem? hk)).resolve_right Qx
theorem Mem.Pe{X:List Nat}{st':St}{c2 m2:Nat}{l2:List AV}(h:Mem h0 n0 X st M)(q:Qt st st')(r:Qu st'.h.get c m l)(r2:Qu st'.h.get c2 m2 l2)(hc:st.n≤c)(hc2:st.n≤c2)(hne:c≠c2):Mem h0 n0 X st' (M++[(c,m,l),(c2,m2,l2)]):=by
 have h1:=h.quiet q;have a1:=h.Xt q r hc;have a2:=h.Xt q r2 hc2;refine⟨h1.fresh,h1.le,h1.base,fun c' m' l' hm=>?_,fun c' m' l' hm=>?_,fun c' m' l' hm=>?_,?_,h1.J5⟩
 ·rcases List.mem_append.1 hm with hm|hm
  ·exact h1.row c' m' l' hm
  ·rcases List.mem_cons.1 hm with e|hm
   ·exact a1.row c' m' l' (by simp[e])
   ·exact a2.row c' m' l' (by simp at hm;simp[hm])
 ·rcases List.mem_append.1 hm with hm|hm
  ·exact h1.lt c' m' l' hm
  ·rcases List.mem_cons.1 hm with e|hm
   ·exact a1.lt c' m' l' (by simp[e])
   ·exact a2.lt c' m' l' (by simp at hm;simp[hm])
 ·rcases List.mem_append.1 hm with hm|hm
  ·exact h1.own c' m' l' hm
  ·rcases List.mem_cons.1 hm with e|hm
   ·exact a1.own c' m' l' (by simp[e])
   ·exact a2.own c' m' l' (by simp at hm;simp[hm])
 ·have b1:=a1.nodup;have b2:=a2.nodup;simp only[List.map_append,List.map_cons,List.map_nil]at b1 b2 ⊢;rw[List.nodup_append]at b1 b2 ⊢;refine⟨b1.1,by simp[hne],fun a ha b hb=>?_⟩;rcases List.mem_cons.1 hb with rfl|hb
  ·exact b1.2.2 a ha _ Qx
  ·exact b2.2.2 a ha b hb
theorem Po{o:List Nat}{a b g n m:Int}{l:List Cr}(ha:AG o)(h:Ja (.mk o a b g n l) m=true)(hm:m≤6):l=[]∧ ∃an bn gn nn:Nat,a=an∧b=bn∧g=gn∧n=nn∧an≤6∧bn≤6∧gn≤6∧nn≤20:=by
 obtain⟨vn,bn,kn,hsh,hv0,hv3,hk,hn1,hn2,hn0,hvar,hex⟩:=CH h
 have hne:o≠[101,120]:=by rcases ha with rfl|rfl|rfl|rfl|rfl|rfl|rfl|rfl|rfl|rfl|rfl<;>simp
 rw[Ja]at h;simp only[Bool.and_eq_true,decide_eq_true_eq]at h
 have hl:(ZQ o).2.1=0:=by rcases ha with rfl|rfl|rfl|rfl|rfl|rfl|rfl|rfl|rfl|rfl|rfl<;>decide
 have hl0:l.length=0:=by have:=h.2.1;omega
 have key: ∀i:Nat,i<3→0≤Up a b g i∧Up a b g i≤6:=fun i hi=>by
  obtain⟨h1,h2⟩:=hvar i hi
  by_cases hv:vn≤i
  ·have:=h1 hv;omega
  ·have:=h2 Qd hne;omega
 have k0:=key 0 Qd;have k1:=key 1 Qd;have k2:=key 2 Qd;simp only[Up]at k0 k1 k2;simp at k0 k1 k2;exact⟨List.eq_nil_of_length_eq_zero hl0,a.toNat,b.toNat,g.toNat,n.toNat,by omega,by omega,by omega,by omega,by omega,by omega,by omega,by omega⟩

theorem az(hf:Qh st)(x y z:Bool): ∃v st',QV 273 [.bool x,.bool y,.bool z] st v st'∧v=.bool true∧Qt st st':=by
 refine Jv Tryz.func273 Tryz.ntmps273 fun T K=>?_;have M:=Mem.start hf;refine Qb 2 K M ?_;refine⟨congrArg AV.bool ?_,M.qt⟩;clear M K
 first|rfl|(cases x<;>cases y<;>cases z<;>simp_all)

theorem ay:FC 273 fun x y z=>true:=fun st1 hf x y z=>az hf x y z

theorem ax(hf:Qh st)(x y z:Bool): ∃v st',QV 274 [.bool x,.bool y,.bool z] st v st'∧v=.bool (!x||y)∧Qt st st':=by
 refine Jv Tryz.func274 Tryz.ntmps274 fun T K=>?_;have M:=Mem.start hf;refine Qb 3 K M fun _ K=>?_;refine oB K (Q8 rfl) rfl fun b9 _ e9 K=>?_;cases b9
 ·replace e9:(x)=true:=by simpa using e9
  refine Qb 3 K M ?_;refine⟨congrArg AV.bool ?_,M.qt⟩;clear M K
  first|rfl|(cases x<;>cases y<;>cases z<;>simp_all)
 replace e9:(x)=false:=by simpa using e9
 refine Qb 3 K M ?_;refine⟨congrArg AV.bool ?_,M.qt⟩;clear M K
 first|rfl|(cases x<;>cases y<;>cases z<;>simp_all)

theorem aw:FC 274 fun x y z=>(!x||y):=fun st1 hf x y z=>ax hf x y z

theorem aq(hf:Qh st)(x y z:Bool): ∃v st',QV 275 [.bool x,.bool y,.bool z] st v st'∧v=.bool (!x)∧Qt st st':=by
 refine Jv Tryz.func275 Tryz.ntmps275 fun T K=>?_;have M:=Mem.start hf;refine Qb 4 K M ?_;refine⟨congrArg AV.bool ?_,M.qt⟩;clear M K
 first|rfl|(cases x<;>cases y<;>cases z<;>simp_all)

theorem ao:FC 275 fun x y z=>(!x):=fun st1 hf x y z=>aq hf x y z

theorem al(hf:Qh st)(x y z:Bool): ∃v st',QV 276 [.bool x,.bool y,.bool z] st v st'∧v=.bool (z==(x||y))∧Qt st st':=by
 refine Jv Tryz.func276 Tryz.ntmps276 fun T K=>?_;have M:=Mem.start hf;refine Qb 3 K M fun _ K=>?_;refine oB K (Q8 rfl) rfl fun b9 _ e9 K=>?_;cases b9
 ·refine Qb 2 K M fun _ K=>?_;refine p1 K (Z1 Ym rfl rfl) fun _ K=>?_;refine Qb 1 K M ?_;refine⟨congrArg AV.bool ?_,M.qt⟩;clear M K
  first|rfl|(cases x<;>cases y<;>cases z<;>simp_all)
 refine Qb 2 K M fun _ K=>?_;refine p1 K (Z1 Ym rfl rfl) fun _ K=>?_;refine Qb 1 K M ?_;refine⟨congrArg AV.bool ?_,M.qt⟩;clear M K
 first|rfl|(cases x<;>cases y<;>cases z<;>simp_all)

theorem ak:FC 276 fun x y z=>(z==(x||y)):=fun st1 hf x y z=>al hf x y z

theorem aj(hf:Qh st)(x y z:Bool): ∃v st',QV 277 [.bool x,.bool y,.bool z] st v st'∧v=.bool (z==(x&&y))∧Qt st st':=by
 refine Jv Tryz.func277 Tryz.ntmps277 fun T K=>?_;have M:=Mem.start hf;refine Qb 3 K M fun _ K=>?_;refine oB K (Q8 rfl) rfl fun b9 _ e9 K=>?_;cases b9
 ·refine Qb 2 K M fun _ K=>?_;refine p1 K (Z1 Ym rfl rfl) fun _ K=>?_;refine Qb 1 K M ?_;refine⟨congrArg AV.bool ?_,M.qt⟩;clear M K
  first|rfl|(cases x<;>cases y<;>cases z<;>simp_all)
 refine Qb 2 K M fun _ K=>?_;refine p1 K (Z1 Ym rfl rfl) fun _ K=>?_;refine Qb 1 K M ?_;refine⟨congrArg AV.bool ?_,M.qt⟩;clear M K
 first|rfl|(cases x<;>cases y<;>cases z<;>simp_all)

theorem ai:FC 277 fun x y z=>(z==(x&&y)):=fun st1 hf x y z=>aj hf x y z

theorem ah(hf:Qh st)(x y z:Bool): ∃v st',QV 278 [.bool x,.bool y,.bool z] st v st'∧v=.bool (z==(x&& !y))∧Qt st st':=by
 refine Jv Tryz.func278 Tryz.ntmps278 fun T K=>?_;have M:=Mem.start hf;refine Qb 3 K M fun _ K=>?_;refine oB K (Q8 rfl) rfl fun b9 _ e9 K=>?_;cases b9
 ·refine Qb 3 K M fun _ K=>?_;refine p1 K (Z1 Ym rfl rfl) fun _ K=>?_;refine Qb 1 K M ?_;refine⟨congrArg AV.bool ?_,M.qt⟩;clear M K
  first|rfl|(cases x<;>cases y<;>cases z<;>simp_all)
 refine Qb 3 K M fun _ K=>?_;refine p1 K (Z1 Ym rfl rfl) fun _ K=>?_;refine Qb 1 K M ?_;refine⟨congrArg AV.bool ?_,M.qt⟩;clear M K
 first|rfl|(cases x<;>cases y<;>cases z<;>simp_all)

theorem ag:FC 278 fun x y z=>(z==(x&& !y)):=fun st1 hf x y z=>ah hf x y z

theorem VY(hf:Qh st){g:FuncId}{p:Bool→Bool→Bool→Bool}(hr:Qu st.h.get c1 0 [.fn g [] []])(hg:FC g p)(s:Int)(x y z:Bool): ∃v st',QV 301 [iZ s,.bool x,.bool y,.bool z,.ptr c1 0 0] st v st'∧v=iZ (if p x y z=true then 0 else-1)∧Qt st st':=by
 refine Jv Tryz.func301 Tryz.ntmps301 fun T K=>?_;have M:=Mem.start hf;refine Qb 1 K M fun _ K=>?_;refine p1 K (Qi rfl (Qr (M.Jf Qx hr.QI) (Qc ZK rfl))) fun _ K=>?_;refine Qb 3 K M fun _ K=>?_;obtain⟨v14,st14,ev14,rfl,q14⟩:=hg _ M.fresh x y z;refine p1 K (Z2 rfl rfl ev14) fun _ K=>?_;replace M:=M.quiet q14;refine Qb 0 K M fun _ K=>?_;refine UJ K rfl (fun h14=>?_) fun h14=>?_
 ·have hb14:=h14;refine Qb 1 K M ?_;refine⟨congrArg (AV.int .i64) ?_,M.qt⟩
  first|(rw[if_pos (by assumption)];done)|(rw[if_neg (by simp_all)];done)
 have hb14:=h14;refine Qb 1 K M ?_;refine⟨congrArg (AV.int .i64) ?_,M.qt⟩
 first|(rw[if_pos (by assumption)];done)|(rw[if_neg (by simp_all)];done)

theorem Aj(hf:Qh st)(g:FuncId): ∃v st',QV 272 [(.fn g [] [])] st v st'∧ ∃c1,v=.agg [.fn 301 [] [.ptr c1 0 0],iZ 0,iZ 1]∧Qu st'.h.get c1 0 [.fn g [] []]∧st.n≤c1∧Qt st st':=by
 refine Jv Tryz.func272 Tryz.ntmps272 fun T K=>?_;have M:=Mem.start hf;refine au 2 K M ?_;intro c1 c2 _ _ K _ M;refine p1 K (Y6 rfl rfl) fun _ K=>?_;refine au 2 K M ?_;intro _ _ K _ M;refine Qb 0 K M ?_;exact⟨c1,rfl,M.Ud (k:=1) rfl,M.jH (k:=1) rfl,M.qt⟩

theorem CF(hf:Qh st)(n s:Nat)(y:Bool)(z:Bool)(hs:s<2): ∃v st',QV 279 [iN s,.bool true,.bool y,.bool z] st v st'∧v=iZ (QQ [115,105,110,103] n s true y z)∧Qt st st':=by
 refine Jv Tryz.func279 Tryz.ntmps279 fun T K=>?_;have M:=Mem.start hf;refine Qb 8 K M fun _ K=>?_;refine U8 K rfl (fun h13=>?_) fun h13=>?_
 ·refine Qb 1 K M ?_;refine⟨congrArg (AV.int .i64) ?_,M.qt⟩;clear M K;rw[Fe]
  first|(simp_all;done)|(simp_all;omega)|(repeat' split)<;>first|(simp_all;done)|(simp_all;omega)|omega
 refine Qb 1 K M ?_;refine⟨congrArg (AV.int .i64) ?_,M.qt⟩;clear M K;rw[Fe]
 first|(simp_all;done)|(simp_all;omega)|(repeat' split)<;>first|(simp_all;done)|(simp_all;omega)|omega

theorem CG(hf:Qh st)(n s:Nat)(y:Bool)(z:Bool)(hs:s<2): ∃v st',QV 279 [iN s,.bool false,.bool y,.bool z] st v st'∧v=iZ (QQ [115,105,110,103] n s false y z)∧Qt st st':=by
 refine Jv Tryz.func279 Tryz.ntmps279 fun T K=>?_;have M:=Mem.start hf;refine Qb 7 K M ?_;refine⟨congrArg (AV.int .i64) ?_,M.qt⟩;clear M K;rw[Fe]
 first|(simp_all;done)|(simp_all;omega)|(repeat' split)<;>first|(simp_all;done)|(simp_all;omega)|omega

theorem TM(hf:Qh st)(n s:Nat)(x y z:Bool)(hs:s<2): ∃v st',QV 279 [.int .i64 (s:Nat),.bool x,.bool y,.bool z] st v st'∧v=.int .i64 (QQ [115,105,110,103] n s x y z)∧Qt st st':=by
 cases x
 ·exact CG hf n s y z hs
 ·exact CF hf n s y z hs

theorem R5(hf:Qh st)(n s:Nat)(y:Bool)(z:Bool)(hs:s<2): ∃v st',QV 280 [iN s,.bool true,.bool y,.bool z] st v st'∧v=iZ (QQ [102,108,97,103] n s true y z)∧Qt st st':=by
 refine Jv Tryz.func280 Tryz.ntmps280 fun T K=>?_;have M:=Mem.start hf;refine Qb 3 K M fun _ K=>?_;refine U5 K rfl (fun _ e11 K=>?_) fun _ e11 K=>?_
 ·refine Qb 4 K M ?_;refine⟨congrArg (AV.int .i64) ?_,M.qt⟩;clear M K;rw[W8]
  first|(simp_all;done)|(simp_all;omega)|(repeat' split)<;>first|(simp_all;done)|(simp_all;omega)|omega
 refine Qb 4 K M ?_;refine⟨congrArg (AV.int .i64) ?_,M.qt⟩;clear M K;rw[W8]
 first|(simp_all;done)|(simp_all;omega)|(repeat' split)<;>first|(simp_all;done)|(simp_all;omega)|omega

theorem R6(hf:Qh st)(n s:Nat)(y:Bool)(z:Bool)(hs:s<2): ∃v st',QV 280 [iN s,.bool false,.bool y,.bool z] st v st'∧v=iZ (QQ [102,108,97,103] n s false y z)∧Qt st st':=by
 refine Jv Tryz.func280 Tryz.ntmps280 fun T K=>?_;have M:=Mem.start hf;refine Qb 3 K M fun _ K=>?_;refine U5 K rfl (fun _ e11 K=>?_) fun _ e11 K=>?_
 ·refine Qb 4 K M ?_;refine⟨congrArg (AV.int .i64) ?_,M.qt⟩;clear M K;rw[W8]
  first|(simp_all;done)|(simp_all;omega)|(repeat' split)<;>first|(simp_all;done)|(simp_all;omega)|omega
 refine Qb 4 K M ?_;refine⟨congrArg (AV.int .i64) ?_,M.qt⟩;clear M K;rw[W8]
 first|(simp_all;done)|(simp_all;omega)|(repeat' split)<;>first|(simp_all;done)|(simp_all;omega)|omega

theorem yd(hf:Qh st)(n s:Nat)(x y z:Bool)(hs:s<2): ∃v st',QV 280 [.int .i64 (s:Nat),.bool x,.bool y,.bool z] st v st'∧v=.int .i64 (QQ [102,108,97,103] n s x y z)∧Qt st st':=by
 cases x
 ·exact R6 hf n s y z hs
 ·exact R5 hf n s y z hs

theorem Dq(hf:Qh st)(n s:Nat)(z:Bool)(hs:s<3): ∃v st',QV 281 [iN s,.bool true,.bool true,.bool z] st v st'∧v=iZ (QQ [108,101,115,115] n s true true z)∧Qt st st':=by
 refine Jv Tryz.func281 Tryz.ntmps281 fun T K=>?_;have M:=Mem.start hf;refine Qb 11 K M fun _ K=>?_;refine U5 K rfl (fun _ e20 K=>?_) fun _ e20 K=>?_
 ·refine Qb 10 K M fun _ K=>?_;refine U5 K rfl (fun _ e30 K=>?_) fun _ e30 K=>?_
  ·refine Qb 9 K M ?_;refine⟨congrArg (AV.int .i64) ?_,M.qt⟩;clear M K;rw[U2]
   first|(simp_all;done)|(simp_all;omega)|(repeat' split)<;>first|(simp_all;done)|(simp_all;omega)|omega
  refine Qb 9 K M ?_;refine⟨congrArg (AV.int .i64) ?_,M.qt⟩;clear M K;rw[U2]
  first|(simp_all;done)|(simp_all;omega)|(repeat' split)<;>first|(simp_all;done)|(simp_all;omega)|omega
 refine Qb 10 K M fun _ K=>?_;refine U5 K rfl (fun _ e30 K=>?_) fun _ e30 K=>?_
 ·refine Qb 9 K M ?_;refine⟨congrArg (AV.int .i64) ?_,M.qt⟩;clear M K;rw[U2]
  first|(simp_all;done)|(simp_all;omega)|(repeat' split)<;>first|(simp_all;done)|(simp_all;omega)|omega
 exact WZ

theorem Dr(hf:Qh st)(n s:Nat)(z:Bool)(hs:s<3): ∃v st',QV 281 [iN s,.bool true,.bool false,.bool z] st v st'∧v=iZ (QQ [108,101,115,115] n s true false z)∧Qt st st':=by
 refine Jv Tryz.func281 Tryz.ntmps281 fun T K=>?_;have M:=Mem.start hf;refine Qb 11 K M fun _ K=>?_;refine U5 K rfl (fun _ e20 K=>?_) fun _ e20 K=>?_
 ·refine Qb 10 K M fun _ K=>?_;refine U5 K rfl (fun _ e30 K=>?_) fun _ e30 K=>?_
  ·refine Qb 9 K M ?_;refine⟨congrArg (AV.int .i64) ?_,M.qt⟩;clear M K;rw[U2]
   first|(simp_all;done)|(simp_all;omega)|(repeat' split)<;>first|(simp_all;done)|(simp_all;omega)|omega
  refine Qb 9 K M ?_;refine⟨congrArg (AV.int .i64) ?_,M.qt⟩;clear M K;rw[U2]
  first|(simp_all;done)|(simp_all;omega)|(repeat' split)<;>first|(simp_all;done)|(simp_all;omega)|omega
 refine Qb 9 K M ?_;refine⟨congrArg (AV.int .i64) ?_,M.qt⟩;clear M K;rw[U2]
 first|(simp_all;done)|(simp_all;omega)|(repeat' split)<;>first|(simp_all;done)|(simp_all;omega)|omega

theorem Ds(hf:Qh st)(n s:Nat)(z:Bool)(hs:s<3): ∃v st',QV 281 [iN s,.bool false,.bool true,.bool z] st v st'∧v=iZ (QQ [108,101,115,115] n s false true z)∧Qt st st':=by
 refine Jv Tryz.func281 Tryz.ntmps281 fun T K=>?_;have M:=Mem.start hf;refine Qb 11 K M fun _ K=>?_;refine U5 K rfl (fun _ e20 K=>?_) fun _ e20 K=>?_
 ·refine Qb 10 K M fun _ K=>?_;refine U5 K rfl (fun _ e30 K=>?_) fun _ e30 K=>?_
  ·refine Qb 9 K M ?_;refine⟨congrArg (AV.int .i64) ?_,M.qt⟩;clear M K;rw[U2]
   first|(simp_all;done)|(simp_all;omega)|(repeat' split)<;>first|(simp_all;done)|(simp_all;omega)|omega
  refine Qb 9 K M ?_;refine⟨congrArg (AV.int .i64) ?_,M.qt⟩;clear M K;rw[U2]
  first|(simp_all;done)|(simp_all;omega)|(repeat' split)<;>first|(simp_all;done)|(simp_all;omega)|omega
 refine Qb 10 K M fun _ K=>?_;refine U5 K rfl (fun _ e30 K=>?_) fun _ e30 K=>?_
 ·refine Qb 9 K M ?_;refine⟨congrArg (AV.int .i64) ?_,M.qt⟩;clear M K;rw[U2]
  first|(simp_all;done)|(simp_all;omega)|(repeat' split)<;>first|(simp_all;done)|(simp_all;omega)|omega
 exact WZ

theorem Dt(hf:Qh st)(n s:Nat)(z:Bool)(hs:s<3): ∃v st',QV 281 [iN s,.bool false,.bool false,.bool z] st v st'∧v=iZ (QQ [108,101,115,115] n s false false z)∧Qt st st':=by
 refine Jv Tryz.func281 Tryz.ntmps281 fun T K=>?_;have M:=Mem.start hf;refine Qb 11 K M ?_;refine⟨congrArg (AV.int .i64) ?_,M.qt⟩;clear M K;rw[U2]
 first|(simp_all;done)|(simp_all;omega)|(repeat' split)<;>first|(simp_all;done)|(simp_all;omega)|omega

theorem uz(hf:Qh st)(n s:Nat)(x y z:Bool)(hs:s<3): ∃v st',QV 281 [.int .i64 (s:Nat),.bool x,.bool y,.bool z] st v st'∧v=.int .i64 (QQ [108,101,115,115] n s x y z)∧Qt st st':=by
 cases x
 ·cases y
  ·exact Dt hf n s z hs
  ·exact Ds hf n s z hs
 ·cases y
  ·exact Dr hf n s z hs
  ·exact Dq hf n s z hs

theorem Ns(hf:Qh st)(n s:Nat)(z:Bool)(hs:s<n+2)(hn:n≤20)(h1:Qu st.h.get c1 0 [iN n])(h3:Qu st.h.get c3 0 [iZ (n+1:Nat)]): ∃v st',QV 302 [iN s,.bool true,.bool true,.bool z,.ptr c1 0 0,.ptr c3 0 0] st v st'∧v=iZ (QQ [112,108,117,115] n s true true z)∧Qt st st':=by
 refine Jv Tryz.func302 Tryz.ntmps302 fun T K=>?_;have M:=Mem.start hf;refine Qb 3 K M fun _ K=>?_;refine U5 K rfl (fun _ e14 K=>?_) fun _ e14 K=>?_
 ·refine Qb 12 K M fun _ K=>?_;refine U5 K rfl (fun _ e26 K=>?_) fun _ e26 K=>?_
  ·refine Qb 10 K M fun _ K=>?_;refine p1 K (Qi rfl (Qr (M.Jf Qx h3.QI) (Qc Qs rfl))) fun _ K=>?_;refine Qb 1 K M fun _ K=>?_;refine U5 K rfl (fun _ e37 K=>?_) fun _ e37 K=>?_
   ·refine Qb 11 K M fun _ K=>?_;refine U5 K rfl (fun _ e49 K=>?_) fun _ e49 K=>?_
    ·exact WZ
    refine Qb 1 K M fun _ K=>?_;refine pg K rfl rfl (Qi rfl (Qr (M.Jf Qx h3.QI) (Qc Qs rfl))) fun _ K=>?_;refine Qb 2 K M fun _ K=>?_;refine U5 K rfl (fun _ e54 K=>?_) fun _ e54 K=>?_
    ·exact WZ
    refine Qb 13 K M ?_;refine⟨congrArg (AV.int .i64) ?_,M.qt⟩;clear M K;rw[Jr]
    first|(simp_all;done)|(simp_all;omega)|(repeat' split)<;>first|(simp_all;done)|(simp_all;omega)|omega
   refine Qb 11 K M fun _ K=>?_;refine U5 K rfl (fun _ e49 K=>?_) fun _ e49 K=>?_
   ·exact WZ
   refine Qb 1 K M fun _ K=>?_;refine pg K rfl rfl (Qi rfl (Qr (M.Jf Qx h3.QI) (Qc Qs rfl))) fun _ K=>?_;refine Qb 2 K M fun _ K=>?_;refine U5 K rfl (fun _ e54 K=>?_) fun _ e54 K=>?_
   ·refine Qb 13 K M ?_;refine⟨congrArg (AV.int .i64) ?_,M.qt⟩;clear M K;rw[Jr]
    first|(simp_all;done)|(simp_all;omega)|(repeat' split)<;>first|(simp_all;done)|(simp_all;omega)|omega
   exact WZ
  exact WZ
 refine Qb 4 K M fun _ K=>?_;refine pg K rfl rfl (Qi rfl (Qr (M.Jf Qx h1.QI) (Qc Qs rfl))) fun _ K=>?_;refine Qb 1 K M fun _ K=>?_;refine pg K rfl rfl (Z1 Ym rfl rfl) fun _ K=>?_;refine Qb 2 K M fun _ K=>?_;refine UJ K rfl (fun h11=>?_) fun h11=>?_
 ·have hb11:=h11;refine Qb 1 K M ?_;refine⟨congrArg (AV.int .i64) ?_,M.qt⟩;clear M K;rw[Jr]
  first|(simp_all;done)|(simp_all;omega)|(repeat' split)<;>first|(simp_all;done)|(simp_all;omega)|omega
 have hb11:=h11;refine Qb 2 K M fun _ K=>?_;refine U5 K rfl (fun _ e26 K=>?_) fun _ e26 K=>?_
 ·exact WZ
 refine Qb 10 K M fun _ K=>?_;refine p1 K (Qi rfl (Qr (M.Jf Qx h3.QI) (Qc Qs rfl))) fun _ K=>?_;refine Qb 1 K M fun _ K=>?_;refine U5 K rfl (fun _ e37 K=>?_) fun _ e37 K=>?_
 ·refine Qb 11 K M fun _ K=>?_;refine U5 K rfl (fun _ e49 K=>?_) fun _ e49 K=>?_
  ·refine Qb 18 K M ?_;refine⟨congrArg (AV.int .i64) ?_,M.qt⟩;clear M K;rw[Jr]
   first|(simp_all;done)|(simp_all;omega)|(repeat' split)<;>first|(simp_all;done)|(simp_all;omega)|omega
  exact WZ
 exact WZ

theorem Nt(hf:Qh st)(n s:Nat)(z:Bool)(hs:s<n+2)(hn:n≤20)(h1:Qu st.h.get c1 0 [iN n])(h3:Qu st.h.get c3 0 [iZ (n+1:Nat)]): ∃v st',QV 302 [iN s,.bool true,.bool false,.bool z,.ptr c1 0 0,.ptr c3 0 0] st v st'∧v=iZ (QQ [112,108,117,115] n s true false z)∧Qt st st':=by
 refine Jv Tryz.func302 Tryz.ntmps302 fun T K=>?_;have M:=Mem.start hf;refine Qb 3 K M fun _ K=>?_;refine U5 K rfl (fun _ e14 K=>?_) fun _ e14 K=>?_
 ·refine Qb 12 K M fun _ K=>?_;refine U5 K rfl (fun _ e26 K=>?_) fun _ e26 K=>?_
  ·refine Qb 10 K M fun _ K=>?_;refine p1 K (Qi rfl (Qr (M.Jf Qx h3.QI) (Qc Qs rfl))) fun _ K=>?_;refine Qb 1 K M fun _ K=>?_;refine U5 K rfl (fun _ e37 K=>?_) fun _ e37 K=>?_
   ·refine Qb 11 K M fun _ K=>?_;refine U5 K rfl (fun _ e49 K=>?_) fun _ e49 K=>?_
    ·exact WZ
    refine Qb 1 K M fun _ K=>?_;refine pg K rfl rfl (Qi rfl (Qr (M.Jf Qx h3.QI) (Qc Qs rfl))) fun _ K=>?_;refine Qb 2 K M fun _ K=>?_;refine U5 K rfl (fun _ e54 K=>?_) fun _ e54 K=>?_
    ·exact WZ
    refine Qb 13 K M ?_;refine⟨congrArg (AV.int .i64) ?_,M.qt⟩;clear M K;rw[Jr]
    first|(simp_all;done)|(simp_all;omega)|(repeat' split)<;>first|(simp_all;done)|(simp_all;omega)|omega
   refine Qb 11 K M fun _ K=>?_;refine U5 K rfl (fun _ e49 K=>?_) fun _ e49 K=>?_
   ·exact WZ
   refine Qb 1 K M fun _ K=>?_;refine pg K rfl rfl (Qi rfl (Qr (M.Jf Qx h3.QI) (Qc Qs rfl))) fun _ K=>?_;refine Qb 2 K M fun _ K=>?_;refine U5 K rfl (fun _ e54 K=>?_) fun _ e54 K=>?_
   ·refine Qb 13 K M ?_;refine⟨congrArg (AV.int .i64) ?_,M.qt⟩;clear M K;rw[Jr]
    first|(simp_all;done)|(simp_all;omega)|(repeat' split)<;>first|(simp_all;done)|(simp_all;omega)|omega
   exact WZ
  exact WZ
 refine Qb 4 K M fun _ K=>?_;refine pg K rfl rfl (Qi rfl (Qr (M.Jf Qx h1.QI) (Qc Qs rfl))) fun _ K=>?_;refine Qb 1 K M fun _ K=>?_;refine pg K rfl rfl (Z1 Ym rfl rfl) fun _ K=>?_;refine Qb 2 K M fun _ K=>?_;refine UJ K rfl (fun h11=>?_) fun h11=>?_
 ·have hb11:=h11;refine Qb 1 K M ?_;refine⟨congrArg (AV.int .i64) ?_,M.qt⟩;clear M K;rw[Jr]
  first|(simp_all;done)|(simp_all;omega)|(repeat' split)<;>first|(simp_all;done)|(simp_all;omega)|omega
 have hb11:=h11;refine Qb 2 K M fun _ K=>?_;refine U5 K rfl (fun _ e26 K=>?_) fun _ e26 K=>?_
 ·exact WZ
 refine Qb 10 K M fun _ K=>?_;refine p1 K (Qi rfl (Qr (M.Jf Qx h3.QI) (Qc Qs rfl))) fun _ K=>?_;refine Qb 1 K M fun _ K=>?_;refine U5 K rfl (fun _ e37 K=>?_) fun _ e37 K=>?_
 ·refine Qb 11 K M fun _ K=>?_;refine U5 K rfl (fun _ e49 K=>?_) fun _ e49 K=>?_
  ·refine Qb 18 K M ?_;refine⟨congrArg (AV.int .i64) ?_,M.qt⟩;clear M K;rw[Jr]
   first|(simp_all;done)|(simp_all;omega)|(repeat' split)<;>first|(simp_all;done)|(simp_all;omega)|omega
  exact WZ
 exact WZ

theorem Nu(hf:Qh st)(n s:Nat)(z:Bool)(hs:s<n+2)(hn:n≤20)(h1:Qu st.h.get c1 0 [iN n])(h3:Qu st.h.get c3 0 [iZ (n+1:Nat)]): ∃v st',QV 302 [iN s,.bool false,.bool true,.bool z,.ptr c1 0 0,.ptr c3 0 0] st v st'∧v=iZ (QQ [112,108,117,115] n s false true z)∧Qt st st':=by
 refine Jv Tryz.func302 Tryz.ntmps302 fun T K=>?_;have M:=Mem.start hf;refine Qb 3 K M fun _ K=>?_;refine U5 K rfl (fun _ e14 K=>?_) fun _ e14 K=>?_
 ·refine Qb 12 K M fun _ K=>?_;refine U5 K rfl (fun _ e26 K=>?_) fun _ e26 K=>?_
  ·refine Qb 10 K M fun _ K=>?_;refine p1 K (Qi rfl (Qr (M.Jf Qx h3.QI) (Qc Qs rfl))) fun _ K=>?_;refine Qb 1 K M fun _ K=>?_;refine U5 K rfl (fun _ e37 K=>?_) fun _ e37 K=>?_
   ·refine Qb 11 K M fun _ K=>?_;refine U5 K rfl (fun _ e49 K=>?_) fun _ e49 K=>?_
    ·exact WZ
    refine Qb 1 K M fun _ K=>?_;refine pg K rfl rfl (Qi rfl (Qr (M.Jf Qx h3.QI) (Qc Qs rfl))) fun _ K=>?_;refine Qb 2 K M fun _ K=>?_;refine U5 K rfl (fun _ e54 K=>?_) fun _ e54 K=>?_
    ·exact WZ
    refine Qb 6 K M fun _ K=>?_;refine pg K rfl rfl (Qi rfl (Qr (M.Jf Qx h1.QI) (Qc Qs rfl))) fun _ K=>?_;refine Qb 1 K M fun _ K=>?_;refine pg K rfl rfl (Z1 Ym rfl rfl) fun _ K=>?_;refine Qb 2 K M fun _ K=>?_;refine UJ K rfl (fun h46=>?_) fun h46=>?_
    ·have hb46:=h46;refine Qb 3 K M ?_;refine⟨congrArg (AV.int .i64) ?_,M.qt⟩;clear M K;rw[Jr]
     first|(simp_all;done)|(simp_all;omega)|(repeat' split)<;>first|(simp_all;done)|(simp_all;omega)|omega
    have hb46:=h46;refine Qb 1 K M ?_;refine⟨congrArg (AV.int .i64) ?_,M.qt⟩;clear M K;rw[Jr]
    first|(simp_all;done)|(simp_all;omega)|(repeat' split)<;>first|(simp_all;done)|(simp_all;omega)|omega
   refine Qb 11 K M fun _ K=>?_;refine U5 K rfl (fun _ e49 K=>?_) fun _ e49 K=>?_
   ·exact WZ
   refine Qb 1 K M fun _ K=>?_;refine pg K rfl rfl (Qi rfl (Qr (M.Jf Qx h3.QI) (Qc Qs rfl))) fun _ K=>?_;refine Qb 2 K M fun _ K=>?_;refine U5 K rfl (fun _ e54 K=>?_) fun _ e54 K=>?_
   ·refine Qb 13 K M ?_;refine⟨congrArg (AV.int .i64) ?_,M.qt⟩;clear M K;rw[Jr]
    first|(simp_all;done)|(simp_all;omega)|(repeat' split)<;>first|(simp_all;done)|(simp_all;omega)|omega
   exact WZ
  exact WZ
 refine Qb 12 K M fun _ K=>?_;refine U5 K rfl (fun _ e26 K=>?_) fun _ e26 K=>?_
 ·exact WZ
 refine Qb 10 K M fun _ K=>?_;refine p1 K (Qi rfl (Qr (M.Jf Qx h3.QI) (Qc Qs rfl))) fun _ K=>?_;refine Qb 1 K M fun _ K=>?_;refine U5 K rfl (fun _ e37 K=>?_) fun _ e37 K=>?_
 ·refine Qb 11 K M fun _ K=>?_;refine U5 K rfl (fun _ e49 K=>?_) fun _ e49 K=>?_
  ·refine Qb 18 K M ?_;refine⟨congrArg (AV.int .i64) ?_,M.qt⟩;clear M K;rw[Jr]
   first|(simp_all;done)|(simp_all;omega)|(repeat' split)<;>first|(simp_all;done)|(simp_all;omega)|omega
  exact WZ
 exact WZ

theorem Nv(hf:Qh st)(n s:Nat)(z:Bool)(hs:s<n+2)(hn:n≤20)(h1:Qu st.h.get c1 0 [iN n])(h3:Qu st.h.get c3 0 [iZ (n+1:Nat)]): ∃v st',QV 302 [iN s,.bool false,.bool false,.bool z,.ptr c1 0 0,.ptr c3 0 0] st v st'∧v=iZ (QQ [112,108,117,115] n s false false z)∧Qt st st':=by
 refine Jv Tryz.func302 Tryz.ntmps302 fun T K=>?_;have M:=Mem.start hf;refine Qb 3 K M fun _ K=>?_;refine U5 K rfl (fun _ e14 K=>?_) fun _ e14 K=>?_
 ·refine Qb 12 K M fun _ K=>?_;refine U5 K rfl (fun _ e26 K=>?_) fun _ e26 K=>?_
  ·refine Qb 10 K M fun _ K=>?_;refine p1 K (Qi rfl (Qr (M.Jf Qx h3.QI) (Qc Qs rfl))) fun _ K=>?_;refine Qb 1 K M fun _ K=>?_;refine U5 K rfl (fun _ e37 K=>?_) fun _ e37 K=>?_
   ·refine Qb 11 K M fun _ K=>?_;refine U5 K rfl (fun _ e49 K=>?_) fun _ e49 K=>?_
    ·exact WZ
    refine Qb 1 K M fun _ K=>?_;refine pg K rfl rfl (Qi rfl (Qr (M.Jf Qx h3.QI) (Qc Qs rfl))) fun _ K=>?_;refine Qb 2 K M fun _ K=>?_;refine U5 K rfl (fun _ e54 K=>?_) fun _ e54 K=>?_
    ·exact WZ
    refine Qb 6 K M fun _ K=>?_;refine pg K rfl rfl (Qi rfl (Qr (M.Jf Qx h1.QI) (Qc Qs rfl))) fun _ K=>?_;refine Qb 1 K M fun _ K=>?_;refine pg K rfl rfl (Z1 Ym rfl rfl) fun _ K=>?_;refine Qb 2 K M fun _ K=>?_;refine UJ K rfl (fun h46=>?_) fun h46=>?_
    ·have hb46:=h46;refine Qb 3 K M ?_;refine⟨congrArg (AV.int .i64) ?_,M.qt⟩;clear M K;rw[Jr]
     first|(simp_all;done)|(simp_all;omega)|(repeat' split)<;>first|(simp_all;done)|(simp_all;omega)|omega
    have hb46:=h46;refine Qb 1 K M ?_;refine⟨congrArg (AV.int .i64) ?_,M.qt⟩;clear M K;rw[Jr]
    first|(simp_all;done)|(simp_all;omega)|(repeat' split)<;>first|(simp_all;done)|(simp_all;omega)|omega
   refine Qb 11 K M ?_;refine⟨congrArg (AV.int .i64) ?_,M.qt⟩;clear M K;rw[Jr]
   first|(simp_all;done)|(simp_all;omega)|(repeat' split)<;>first|(simp_all;done)|(simp_all;omega)|omega
  exact WZ
 refine Qb 12 K M fun _ K=>?_;refine U5 K rfl (fun _ e26 K=>?_) fun _ e26 K=>?_
 ·exact WZ
 refine Qb 12 K M ?_;refine⟨congrArg (AV.int .i64) ?_,M.qt⟩;clear M K;rw[Jr]
 first|(simp_all;done)|(simp_all;omega)|(repeat' split)<;>first|(simp_all;done)|(simp_all;omega)|omega

theorem DU(hf:Qh st)(n s:Nat)(x y z:Bool)(hs:s<n+2)(hn:n≤20)(h1:Qu st.h.get c1 0 [.int .i64 (n:Nat)])(h3:Qu st.h.get c3 0 [.int .i64 (n+1:Nat)]): ∃v st',QV 302 [.int .i64 (s:Nat),.bool x,.bool y,.bool z,.ptr c1 0 0,.ptr c3 0 0] st v st'∧v=.int .i64 (QQ [112,108,117,115] n s x y z)∧Qt st st':=by
 cases x
 ·cases y
  ·exact Nv hf n s z hs hn h1 h3
  ·exact Nu hf n s z hs hn h1 h3
 ·cases y
  ·exact Nt hf n s z hs hn h1 h3
  ·exact Ns hf n s z hs hn h1 h3

theorem NT(hf:Qh st)(n s:Nat)(z:Bool)(hs:s<n+2)(hn:n≤20)(h1:Qu st.h.get c1 0 [iN n])(h3:Qu st.h.get c3 0 [iZ (n+1:Nat)]): ∃v st',QV 303 [iN s,.bool true,.bool true,.bool z,.ptr c3 0 0,.ptr c1 0 0] st v st'∧v=iZ (QQ [110,117,109] n s true true z)∧Qt st st':=by
 refine Jv Tryz.func303 Tryz.ntmps303 fun T K=>?_;have M:=Mem.start hf;refine Qb 2 K M fun _ K=>?_;refine p1 K (Qi rfl (Qr (M.Jf Qx h3.QI) (Qc Qs rfl))) fun _ K=>?_;refine Qb 1 K M fun _ K=>?_;refine U5 K rfl (fun _ e15 K=>?_) fun _ e15 K=>?_
 ·refine Qb 9 K M fun _ K=>?_;refine p1 K (Qi rfl (Qr (M.Jf Qx h3.QI) (Qc Qs rfl))) fun _ K=>?_;refine Qb 1 K M fun _ K=>?_;refine U5 K rfl (fun _ e28 K=>?_) fun _ e28 K=>?_
  ·exact WZ
  refine Qb 6 K M ?_;refine⟨congrArg (AV.int .i64) ?_,M.qt⟩;clear M K;rw[Ut]
  first|(simp_all;done)|(simp_all;omega)|(repeat' split)<;>first|(simp_all;done)|(simp_all;omega)|omega
 refine Qb 2 K M fun _ K=>?_;refine pg K rfl rfl (Qi rfl (Qr (M.Jf Qx h1.QI) (Qc Qs rfl))) fun _ K=>?_;refine Qb 1 K M fun _ K=>?_;refine pg K rfl rfl (Z1 Ym rfl rfl) fun _ K=>?_;refine Qb 2 K M fun _ K=>?_;refine UJ K rfl (fun h11=>?_) fun h11=>?_
 ·have hb11:=h11;refine Qb 3 K M ?_;refine⟨congrArg (AV.int .i64) ?_,M.qt⟩;clear M K;rw[Ut]
  first|(simp_all;done)|(simp_all;omega)|(repeat' split)<;>first|(simp_all;done)|(simp_all;omega)|omega
 have hb11:=h11;refine Qb 1 K M fun _ K=>?_;refine p1 K (Qi rfl (Qr (M.Jf Qx h3.QI) (Qc Qs rfl))) fun _ K=>?_;refine Qb 1 K M fun _ K=>?_;refine U5 K rfl (fun _ e28 K=>?_) fun _ e28 K=>?_
 ·refine Qb 6 K M ?_;refine⟨congrArg (AV.int .i64) ?_,M.qt⟩;clear M K;rw[Ut]
  first|(simp_all;done)|(simp_all;omega)|(repeat' split)<;>first|(simp_all;done)|(simp_all;omega)|omega
 exact WZ

theorem NU(hf:Qh st)(n s:Nat)(z:Bool)(hs:s<n+2)(hn:n≤20)(h1:Qu st.h.get c1 0 [iN n])(h3:Qu st.h.get c3 0 [iZ (n+1:Nat)]): ∃v st',QV 303 [iN s,.bool true,.bool false,.bool z,.ptr c3 0 0,.ptr c1 0 0] st v st'∧v=iZ (QQ [110,117,109] n s true false z)∧Qt st st':=by
 refine Jv Tryz.func303 Tryz.ntmps303 fun T K=>?_;have M:=Mem.start hf;refine Qb 2 K M fun _ K=>?_;refine p1 K (Qi rfl (Qr (M.Jf Qx h3.QI) (Qc Qs rfl))) fun _ K=>?_;refine Qb 1 K M fun _ K=>?_;refine U5 K rfl (fun _ e15 K=>?_) fun _ e15 K=>?_
 ·refine Qb 9 K M fun _ K=>?_;refine p1 K (Qi rfl (Qr (M.Jf Qx h3.QI) (Qc Qs rfl))) fun _ K=>?_;refine Qb 1 K M fun _ K=>?_;refine U5 K rfl (fun _ e28 K=>?_) fun _ e28 K=>?_
  ·exact WZ
  refine Qb 6 K M ?_;refine⟨congrArg (AV.int .i64) ?_,M.qt⟩;clear M K;rw[Ut]
  first|(simp_all;done)|(simp_all;omega)|(repeat' split)<;>first|(simp_all;done)|(simp_all;omega)|omega
 refine Qb 2 K M fun _ K=>?_;refine pg K rfl rfl (Qi rfl (Qr (M.Jf Qx h1.QI) (Qc Qs rfl))) fun _ K=>?_;refine Qb 1 K M fun _ K=>?_;refine pg K rfl rfl (Z1 Ym rfl rfl) fun _ K=>?_;refine Qb 2 K M fun _ K=>?_;refine UJ K rfl (fun h11=>?_) fun h11=>?_
 ·have hb11:=h11;refine Qb 3 K M ?_;refine⟨congrArg (AV.int .i64) ?_,M.qt⟩;clear M K;rw[Ut]
  first|(simp_all;done)|(simp_all;omega)|(repeat' split)<;>first|(simp_all;done)|(simp_all;omega)|omega
 have hb11:=h11;refine Qb 1 K M fun _ K=>?_;refine p1 K (Qi rfl (Qr (M.Jf Qx h3.QI) (Qc Qs rfl))) fun _ K=>?_;refine Qb 1 K M fun _ K=>?_;refine U5 K rfl (fun _ e28 K=>?_) fun _ e28 K=>?_
 ·refine Qb 6 K M ?_;refine⟨congrArg (AV.int .i64) ?_,M.qt⟩;clear M K;rw[Ut]
  first|(simp_all;done)|(simp_all;omega)|(repeat' split)<;>first|(simp_all;done)|(simp_all;omega)|omega
 exact WZ

theorem NV(hf:Qh st)(n s:Nat)(z:Bool)(hs:s<n+2)(hn:n≤20)(h1:Qu st.h.get c1 0 [iN n])(h3:Qu st.h.get c3 0 [iZ (n+1:Nat)]): ∃v st',QV 303 [iN s,.bool false,.bool true,.bool z,.ptr c3 0 0,.ptr c1 0 0] st v st'∧v=iZ (QQ [110,117,109] n s false true z)∧Qt st st':=by
 refine Jv Tryz.func303 Tryz.ntmps303 fun T K=>?_;have M:=Mem.start hf;refine Qb 2 K M fun _ K=>?_;refine p1 K (Qi rfl (Qr (M.Jf Qx h3.QI) (Qc Qs rfl))) fun _ K=>?_;refine Qb 1 K M fun _ K=>?_;refine U5 K rfl (fun _ e15 K=>?_) fun _ e15 K=>?_
 ·refine Qb 9 K M fun _ K=>?_;refine p1 K (Qi rfl (Qr (M.Jf Qx h3.QI) (Qc Qs rfl))) fun _ K=>?_;refine Qb 1 K M fun _ K=>?_;refine U5 K rfl (fun _ e28 K=>?_) fun _ e28 K=>?_
  ·exact WZ
  refine Qb 5 K M fun _ K=>?_;refine p1 K (Qi rfl (Qr (M.Jf Qx h3.QI) (Qc Qs rfl))) fun _ K=>?_;refine Qb 1 K M ?_;refine⟨congrArg (AV.int .i64) ?_,M.qt⟩;clear M K;rw[Ut]
  first|(simp_all;done)|(simp_all;omega)|(repeat' split)<;>first|(simp_all;done)|(simp_all;omega)|omega
 refine Qb 2 K M fun _ K=>?_;refine pg K rfl rfl (Qi rfl (Qr (M.Jf Qx h1.QI) (Qc Qs rfl))) fun _ K=>?_;refine Qb 1 K M fun _ K=>?_;refine pg K rfl rfl (Z1 Ym rfl rfl) fun _ K=>?_;refine Qb 2 K M fun _ K=>?_;refine UJ K rfl (fun h11=>?_) fun h11=>?_
 ·have hb11:=h11;refine Qb 3 K M ?_;refine⟨congrArg (AV.int .i64) ?_,M.qt⟩;clear M K;rw[Ut]
  first|(simp_all;done)|(simp_all;omega)|(repeat' split)<;>first|(simp_all;done)|(simp_all;omega)|omega
 have hb11:=h11;refine Qb 1 K M fun _ K=>?_;refine p1 K (Qi rfl (Qr (M.Jf Qx h3.QI) (Qc Qs rfl))) fun _ K=>?_;refine Qb 1 K M fun _ K=>?_;refine U5 K rfl (fun _ e28 K=>?_) fun _ e28 K=>?_
 ·refine Qb 6 K M ?_;refine⟨congrArg (AV.int .i64) ?_,M.qt⟩;clear M K;rw[Ut]
  first|(simp_all;done)|(simp_all;omega)|(repeat' split)<;>first|(simp_all;done)|(simp_all;omega)|omega
 exact WZ

theorem NW(hf:Qh st)(n s:Nat)(z:Bool)(hs:s<n+2)(hn:n≤20)(h1:Qu st.h.get c1 0 [iN n])(h3:Qu st.h.get c3 0 [iZ (n+1:Nat)]): ∃v st',QV 303 [iN s,.bool false,.bool false,.bool z,.ptr c3 0 0,.ptr c1 0 0] st v st'∧v=iZ (QQ [110,117,109] n s false false z)∧Qt st st':=by
 refine Jv Tryz.func303 Tryz.ntmps303 fun T K=>?_;have M:=Mem.start hf;refine Qb 2 K M fun _ K=>?_;refine p1 K (Qi rfl (Qr (M.Jf Qx h3.QI) (Qc Qs rfl))) fun _ K=>?_;refine Qb 1 K M fun _ K=>?_;refine U5 K rfl (fun _ e15 K=>?_) fun _ e15 K=>?_
 ·refine Qb 9 K M fun _ K=>?_;refine p1 K (Qi rfl (Qr (M.Jf Qx h3.QI) (Qc Qs rfl))) fun _ K=>?_;refine Qb 1 K M fun _ K=>?_;refine U5 K rfl (fun _ e28 K=>?_) fun _ e28 K=>?_
  ·exact WZ
  refine Qb 5 K M fun _ K=>?_;refine p1 K (Qi rfl (Qr (M.Jf Qx h3.QI) (Qc Qs rfl))) fun _ K=>?_;refine Qb 1 K M ?_;refine⟨congrArg (AV.int .i64) ?_,M.qt⟩;clear M K;rw[Ut]
  first|(simp_all;done)|(simp_all;omega)|(repeat' split)<;>first|(simp_all;done)|(simp_all;omega)|omega
 refine Qb 2 K M fun _ K=>?_;refine pg K rfl rfl (Qi rfl (Qr (M.Jf Qx h1.QI) (Qc Qs rfl))) fun _ K=>?_;refine Qb 1 K M fun _ K=>?_;refine pg K rfl rfl (Z1 Ym rfl rfl) fun _ K=>?_;refine Qb 2 K M fun _ K=>?_;refine UJ K rfl (fun h11=>?_) fun h11=>?_
 ·have hb11:=h11;refine Qb 3 K M ?_;refine⟨congrArg (AV.int .i64) ?_,M.qt⟩;clear M K;rw[Ut]
  first|(simp_all;done)|(simp_all;omega)|(repeat' split)<;>first|(simp_all;done)|(simp_all;omega)|omega
 have hb11:=h11;refine Qb 1 K M fun _ K=>?_;refine p1 K (Qi rfl (Qr (M.Jf Qx h3.QI) (Qc Qs rfl))) fun _ K=>?_;refine Qb 1 K M fun _ K=>?_;refine U5 K rfl (fun _ e28 K=>?_) fun _ e28 K=>?_
 ·refine Qb 6 K M ?_;refine⟨congrArg (AV.int .i64) ?_,M.qt⟩;clear M K;rw[Ut]
  first|(simp_all;done)|(simp_all;omega)|(repeat' split)<;>first|(simp_all;done)|(simp_all;omega)|omega
 exact WZ

theorem Rf(hf:Qh st)(n s:Nat)(x y z:Bool)(hs:s<n+2)(hn:n≤20)(h1:Qu st.h.get c1 0 [.int .i64 (n:Nat)])(h3:Qu st.h.get c3 0 [.int .i64 (n+1:Nat)]): ∃v st',QV 303 [.int .i64 (s:Nat),.bool x,.bool y,.bool z,.ptr c3 0 0,.ptr c1 0 0] st v st'∧v=.int .i64 (QQ [110,117,109] n s x y z)∧Qt st st':=by
 cases x
 ·cases y
  ·exact NW hf n s z hs hn h1 h3
  ·exact NV hf n s z hs hn h1 h3
 ·cases y
  ·exact NU hf n s z hs hn h1 h3
  ·exact NT hf n s z hs hn h1 h3
end Go.Proofs.YtildagdnomiahaaGreatDoor
