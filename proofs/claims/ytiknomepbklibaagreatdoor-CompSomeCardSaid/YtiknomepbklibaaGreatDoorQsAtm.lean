/-
  Atoms: the program's machines, its automata of atoms.
-/
import Derived.Test.YtiknomepbklibaaGreatDoorQsMnd
namespace Go.Proofs.YtiknomepbklibaaGreatDoor
open Go Go.RowKit
set_option maxHeartbeats 8000000
set_option linter.unusedVariables false
set_option linter.unusedSimpArgs false
set_option linter.unnecessarySimpa false
set_option linter.unusedSectionVars false
set_option maxRecDepth 100000
variable {M:QM} {c c1 c3 m n0:Nat} {h0:Hp} {l:List AV} {st:St}

def Hy(st:St)(f:FuncId)(fc:List AV)(o:List Nat)(n:Nat):Prop:= ∀st1,Qt st st1→ ∀(s:Nat) (x y z:Bool),s<Qu o n→ ∃v st2,Jf f ([]++([.int .i64 (s:Nat),.bool x,.bool y,.bool z]++fc)) st1 v st2∧v=.int .i64 (Jp o n s x y z)∧Qt st1 st2
def Hx(f:FuncId)(p:Bool→Bool→Bool→Bool):Prop:= ∀st1,Qi st1→ ∀x y z:Bool,∃v st2,Jf f [.bool x,.bool y,.bool z] st1 v st2∧v=.bool (p x y z)∧Qt st1 st2
theorem Co(f:Nat):Gi (.fn f [] []) (.fn f [] [])=true:=by
 have h: ∀n:Nat,Nat.beq n n=true:=fun n=>by simp
 show Qj (Nat.beq f f) (Qj (AG [] []) (AG [] []) false) false=true;rw[h];rfl
theorem Fj(f c:Nat):Gi (.fn f [] [.ptr c 0 0]) (.fn f [] [.ptr c 0 0])=true:=by
 have h: ∀n:Nat,Nat.beq n n=true:=fun n=>by simp
 show Qj (Nat.beq f f) (Qj (AG [] []) (Qj (Qj (Nat.beq c c) true false) true false) false) false=true;rw[h,h];rfl
theorem Qx.later{st1:St}(r:Qx st.h.get c m l)(hf:Qi st)(q:Qt st st1):Qx st1.h.get c m l:=r.frame (q.J9 c (r.lt hf))
theorem FY(n s:Nat)(x y z:Bool):Jp [115,105,110,103] n s x y z=(if x=false then((s:Nat):Int)else if s=0 then 1 else-1):=by
 unfold Jp;rw[if_neg Q8,if_neg Q8,if_neg Q8,if_neg Q8,if_neg Q8,if_neg Q8,if_pos rfl]
theorem Eh(n s:Nat)(x y z:Bool):Jp [102,108,97,103] n s x y z=(if s=1∨x=true then 1 else-1):=by
 unfold Jp;rw[if_neg Q8,if_neg Q8,if_neg Q8,if_neg Q8,if_neg Q8,if_neg Q8,if_neg Q8,if_pos rfl]
theorem Yk(n s:Nat)(x y z:Bool):Jp [108,101,115,115] n s x y z=(if x=false∧y=false then((s:Nat):Int)else if s=0∧x=true∧y=false then 1 else if s=1∧y=true∧x=false then 2 else-1):=by
 unfold Jp;rw[if_neg Q8,if_neg Q8,if_neg Q8,if_neg Q8,if_neg Q8,if_neg Q8,if_neg Q8,if_neg Q8,if_pos rfl]
theorem JT(n s:Nat)(x y z:Bool):Jp [112,108,117,115] n s x y z=(if s=0∧x=true∧y=decide (n=0)then 1 else if(s=0∧x=false∧y=false)∨(s=n+1∧x=false∧y=false)then((s:Nat):Int)else if 0<s∧s<n+1∧x=false∧y=decide (s=n)then((s+1:Nat):Int)else-1):=by
 unfold Jp;rw[if_neg Q8,if_neg Q8,if_neg Q8,if_neg Q8,if_neg Q8,if_neg Q8,if_neg Q8,if_neg Q8,if_neg Q8,if_pos rfl]
theorem Yc(n s:Nat)(x y z:Bool):Jp [110,117,109] n s x y z=(if s<n+1∧x=decide (s=n)then((s+1:Nat):Int)else if s=n+1∧x=false then((n+1:Nat):Int)else-1):=by
 unfold Jp;rw[if_neg Q8,if_neg Q8,if_neg Q8,if_neg Q8,if_neg Q8,if_neg Q8,if_neg Q8,if_neg Q8,if_neg Q8,if_neg Q8]
theorem Mem.XR{X:List Nat}{st':St}(h:Mem h0 n0 X st M)(q:Qt st st')(r:Qx st'.h.get c m l)(hc:st.n≤c):Mem h0 n0 X st' (M++[(c,m,l)]):=by
 have h1:=h.quiet q;refine⟨h1.fresh,h1.le,h1.base,fun c' m' l' hm=>?_,fun c' m' l' hm=>?_,fun c' m' l' hm=>?_,?_,h1.J9⟩
 ·rcases List.mem_append.1 hm with hm|hm
  ·exact h1.row c' m' l' hm
  ·have e:=List.mem_singleton.1 hm
   injection e with e1 e;injection e with e2 e3
   subst e1 e2 e3;exact r
 ·rcases List.mem_append.1 hm with hm|hm
  ·exact h1.lt c' m' l' hm
  ·have e:=List.mem_singleton.1 hm
   injection e with e1 e
   rw[e1];exact r.lt q.fresh
 ·rcases List.mem_append.1 hm with hm|hm
  ·exact h1.own c' m' l' hm
  ·have e:=List.mem_singleton.1 hm
   injection e with e1 e
   rw[e1];exact .inl (Nat.le_trans h.le hc)
 ·rw[List.map_append];refine List.nodup_append.2 ⟨h1.nodup,by simp,fun a ha b hb e=>?_⟩;subst e;obtain⟨⟨c',m',l'⟩,e1,e2⟩:=List.mem_map.1 ha
  have e3:a=c:=by simpa using hb
  have e2:c'=a:=e2;have:=h.lt c' m' l' e1;omega
theorem Mem.jS{k:Nat}(h:Mem h0 n0 [] st M)(hk:M[k]? =some (c,m,l)):n0≤c:=(h.own c m l (List.mem_of_getElem? hk)).resolve_right Q4
theorem Mem.P3{X:List Nat}{st':St}{c2 m2:Nat}{l2:List AV}(h:Mem h0 n0 X st M)(q:Qt st st')(r:Qx st'.h.get c m l)(r2:Qx st'.h.get c2 m2 l2)(hc:st.n≤c)(hc2:st.n≤c2)(hne:c≠c2):Mem h0 n0 X st' (M++[(c,m,l),(c2,m2,l2)]):=by
 have h1:=h.quiet q;have a1:=h.XR q r hc;have a2:=h.XR q r2 hc2;refine⟨h1.fresh,h1.le,h1.base,fun c' m' l' hm=>?_,fun c' m' l' hm=>?_,fun c' m' l' hm=>?_,?_,h1.J9⟩
 ·rcases List.mem_append.1 hm with hm|hm
  ·exact h1.row c' m' l' hm
  ·rcases List.mem_cons.1 hm with e|hm
   ·exact a1.row c' m' l' (by simp[e])
   ·exact a2.row c' m' l' (by simp at hm;simp[hm])
 ·rcases List.mem_append.1 hm with hm|hm
  ·exact h1.lt c' m' l' hm
  ·rcases List.mem_cons.1 hm with e|hm
   ·exact a1.lt c' m' l' (by simp[e])
   ·exact a2.lt c' m' l' (by simp at hm;simp[hm])
 ·rcases List.mem_append.1 hm with hm|hm
  ·exact h1.own c' m' l' hm
  ·rcases List.mem_cons.1 hm with e|hm
   ·exact a1.own c' m' l' (by simp[e])
   ·exact a2.own c' m' l' (by simp at hm;simp[hm])
 ·have b1:=a1.nodup;have b2:=a2.nodup;simp only[List.map_append,List.map_cons,List.map_nil]at b1 b2 ⊢;rw[List.nodup_append]at b1 b2 ⊢;refine⟨b1.1,by simp[hne],fun a ha b hb=>?_⟩;rcases List.mem_cons.1 hb with rfl|hb
  ·exact b1.2.2 a ha _ Q4
  ·exact b2.2.2 a ha b hb
theorem KO{o:List Nat}{a b g n m:Int}{l:List Cr}(ha:VQ o)(h:QV (.mk o a b g n l) m=true)(hm:m≤6):l=[]∧ ∃an bn gn nn:Nat,a=an∧b=bn∧g=gn∧n=nn∧an≤6∧bn≤6∧gn≤6∧nn≤20:=by
 obtain⟨vn,bn,kn,hsh,hv0,hv3,hk,hn1,hn2,hn0,hvar,hex⟩:=Di h
 have hne:o≠[101,120]:=by rcases ha with rfl|rfl|rfl|rfl|rfl|rfl|rfl|rfl|rfl|rfl|rfl<;>simp
 rw[QV]at h;simp only[Bool.and_eq_true,decide_eq_true_eq]at h
 have hl:(Uj o).2.1=0:=by rcases ha with rfl|rfl|rfl|rfl|rfl|rfl|rfl|rfl|rfl|rfl|rfl<;>decide
 have hl0:l.length=0:=by have:=h.2.1;omega
 have key: ∀i:Nat,i<3→0≤UW a b g i∧UW a b g i≤6:=fun i hi=>by
  obtain⟨h1,h2⟩:=hvar i hi
  by_cases hv:vn≤i
  ·have:=h1 hv;omega
  ·have:=h2 Qc hne;omega
 have k0:=key 0 Qc;have k1:=key 1 Qc;have k2:=key 2 Qc;simp only[UW]at k0 k1 k2;simp at k0 k1 k2;exact⟨List.eq_nil_of_length_eq_zero hl0,a.toNat,b.toNat,g.toNat,n.toNat,by omega,by omega,by omega,by omega,by omega,by omega,by omega,by omega⟩

theorem eJ(hf:Qi st)(x y z:Bool): ∃v st',Jf 160 [.bool x,.bool y,.bool z] st v st'∧v=.bool true∧Qt st st':=by
 refine J7 Tryz.func160 Tryz.ntmps160 fun T K=>?_;have M:=Mem.start hf;refine Qb 2 K M ?_;refine⟨congrArg AV.bool ?_,M.qt⟩;clear M K
 first|rfl|(cases x<;>cases y<;>cases z<;>simp_all)

theorem eI:Hx 160 fun x y z=>true:=fun st1 hf x y z=>eJ hf x y z

theorem eH(hf:Qi st)(x y z:Bool): ∃v st',Jf 161 [.bool x,.bool y,.bool z] st v st'∧v=.bool (!x||y)∧Qt st st':=by
 refine J7 Tryz.func161 Tryz.ntmps161 fun T K=>?_;have M:=Mem.start hf;refine Qb 3 K M fun _ K=>?_;refine oB K (Qy rfl) rfl fun b9 _ e9 K=>?_;cases b9
 ·replace e9:(x)=true:=by simpa using e9
  refine Qb 3 K M ?_;refine⟨congrArg AV.bool ?_,M.qt⟩;clear M K
  first|rfl|(cases x<;>cases y<;>cases z<;>simp_all)
 replace e9:(x)=false:=by simpa using e9
 refine Qb 3 K M ?_;refine⟨congrArg AV.bool ?_,M.qt⟩;clear M K
 first|rfl|(cases x<;>cases y<;>cases z<;>simp_all)

theorem eG:Hx 161 fun x y z=>(!x||y):=fun st1 hf x y z=>eH hf x y z

theorem eF(hf:Qi st)(x y z:Bool): ∃v st',Jf 162 [.bool x,.bool y,.bool z] st v st'∧v=.bool (!x)∧Qt st st':=by
 refine J7 Tryz.func162 Tryz.ntmps162 fun T K=>?_;have M:=Mem.start hf;refine Qb 4 K M ?_;refine⟨congrArg AV.bool ?_,M.qt⟩;clear M K
 first|rfl|(cases x<;>cases y<;>cases z<;>simp_all)

theorem eE:Hx 162 fun x y z=>(!x):=fun st1 hf x y z=>eF hf x y z

theorem eD(hf:Qi st)(x y z:Bool): ∃v st',Jf 163 [.bool x,.bool y,.bool z] st v st'∧v=.bool (z==(x||y))∧Qt st st':=by
 refine J7 Tryz.func163 Tryz.ntmps163 fun T K=>?_;have M:=Mem.start hf;refine Qb 3 K M fun _ K=>?_;refine oB K (Qy rfl) rfl fun b9 _ e9 K=>?_;cases b9
 ·refine Qb 2 K M fun _ K=>?_;refine p1 K (ZY Y7 rfl rfl) fun _ K=>?_;refine Qb 1 K M ?_;refine⟨congrArg AV.bool ?_,M.qt⟩;clear M K
  first|rfl|(cases x<;>cases y<;>cases z<;>simp_all)
 refine Qb 2 K M fun _ K=>?_;refine p1 K (ZY Y7 rfl rfl) fun _ K=>?_;refine Qb 1 K M ?_;refine⟨congrArg AV.bool ?_,M.qt⟩;clear M K
 first|rfl|(cases x<;>cases y<;>cases z<;>simp_all)

theorem eC:Hx 163 fun x y z=>(z==(x||y)):=fun st1 hf x y z=>eD hf x y z

theorem eB(hf:Qi st)(x y z:Bool): ∃v st',Jf 164 [.bool x,.bool y,.bool z] st v st'∧v=.bool (z==(x&&y))∧Qt st st':=by
 refine J7 Tryz.func164 Tryz.ntmps164 fun T K=>?_;have M:=Mem.start hf;refine Qb 3 K M fun _ K=>?_;refine oB K (Qy rfl) rfl fun b9 _ e9 K=>?_;cases b9
 ·refine Qb 2 K M fun _ K=>?_;refine p1 K (ZY Y7 rfl rfl) fun _ K=>?_;refine Qb 1 K M ?_;refine⟨congrArg AV.bool ?_,M.qt⟩;clear M K
  first|rfl|(cases x<;>cases y<;>cases z<;>simp_all)
 refine Qb 2 K M fun _ K=>?_;refine p1 K (ZY Y7 rfl rfl) fun _ K=>?_;refine Qb 1 K M ?_;refine⟨congrArg AV.bool ?_,M.qt⟩;clear M K
 first|rfl|(cases x<;>cases y<;>cases z<;>simp_all)

theorem eA:Hx 164 fun x y z=>(z==(x&&y)):=fun st1 hf x y z=>eB hf x y z

theorem ey(hf:Qi st)(x y z:Bool): ∃v st',Jf 165 [.bool x,.bool y,.bool z] st v st'∧v=.bool (z==(x&& !y))∧Qt st st':=by
 refine J7 Tryz.func165 Tryz.ntmps165 fun T K=>?_;have M:=Mem.start hf;refine Qb 3 K M fun _ K=>?_;refine oB K (Qy rfl) rfl fun b9 _ e9 K=>?_;cases b9
 ·refine Qb 3 K M fun _ K=>?_;refine p1 K (ZY Y7 rfl rfl) fun _ K=>?_;refine Qb 1 K M ?_;refine⟨congrArg AV.bool ?_,M.qt⟩;clear M K
  first|rfl|(cases x<;>cases y<;>cases z<;>simp_all)
 refine Qb 3 K M fun _ K=>?_;refine p1 K (ZY Y7 rfl rfl) fun _ K=>?_;refine Qb 1 K M ?_;refine⟨congrArg AV.bool ?_,M.qt⟩;clear M K
 first|rfl|(cases x<;>cases y<;>cases z<;>simp_all)

theorem ew:Hx 165 fun x y z=>(z==(x&& !y)):=fun st1 hf x y z=>ey hf x y z

theorem WC(hf:Qi st){g:FuncId}{p:Bool→Bool→Bool→Bool}(hr:Qx st.h.get c1 0 [.fn g [] []])(hg:Hx g p)(s:Int)(x y z:Bool): ∃v st',Jf 174 [iZ s,.bool x,.bool y,.bool z,.ptr c1 0 0] st v st'∧v=iZ (if p x y z=true then 0 else-1)∧Qt st st':=by
 refine J7 Tryz.func174 Tryz.ntmps174 fun T K=>?_;have M:=Mem.start hf;refine Qb 1 K M fun _ K=>?_;refine p1 K (Qg rfl (Qw (M.JF Q4 hr.Jb) (Qd Xx rfl))) fun _ K=>?_;refine Qb 3 K M fun _ K=>?_;obtain⟨v14,st14,ev14,rfl,q14⟩:=hg _ M.fresh x y z;refine p1 K (ZZ rfl rfl ev14) fun _ K=>?_;replace M:=M.quiet q14;refine Qb 0 K M fun _ K=>?_;refine Uq K rfl (fun h14=>?_) fun h14=>?_
 ·have hb14:=h14;refine Qb 1 K M ?_;refine⟨congrArg (AV.int .i64) ?_,M.qt⟩
  first|(rw[if_pos (by assumption)];done)|(rw[if_neg (by simp_all)];done)
 have hb14:=h14;refine Qb 1 K M ?_;refine⟨congrArg (AV.int .i64) ?_,M.qt⟩
 first|(rw[if_pos (by assumption)];done)|(rw[if_neg (by simp_all)];done)

theorem AY(hf:Qi st)(g:FuncId): ∃v st',Jf 159 [(.fn g [] [])] st v st'∧ ∃c1,v=.agg [.fn 174 [] [.ptr c1 0 0],iZ 0,iZ 1]∧Qx st'.h.get c1 0 [.fn g [] []]∧st.n≤c1∧Qt st st':=by
 refine J7 Tryz.func159 Tryz.ntmps159 fun T K=>?_;have M:=Mem.start hf;refine au 2 K M ?_;intro c1 c2 _ _ K _ M;refine p1 K (X9 rfl rfl) fun _ K=>?_;refine au 2 K M ?_;intro _ _ K _ M;refine Qb 0 K M ?_;exact⟨c1,rfl,M.Ya (k:=1) rfl,M.jS (k:=1) rfl,M.qt⟩

theorem Dg(hf:Qi st)(n s:Nat)(y:Bool)(z:Bool)(hs:s<2): ∃v st',Jf 166 [iN s,.bool true,.bool y,.bool z] st v st'∧v=iZ (Jp [115,105,110,103] n s true y z)∧Qt st st':=by
 refine J7 Tryz.func166 Tryz.ntmps166 fun T K=>?_;have M:=Mem.start hf;refine Qb 8 K M fun _ K=>?_;refine Jt K rfl (fun h13=>?_) fun h13=>?_
 ·refine Qb 1 K M ?_;refine⟨congrArg (AV.int .i64) ?_,M.qt⟩;clear M K;rw[FY]
  first|(simp_all;done)|(simp_all;omega)|(repeat' split)<;>first|(simp_all;done)|(simp_all;omega)|omega
 refine Qb 1 K M ?_;refine⟨congrArg (AV.int .i64) ?_,M.qt⟩;clear M K;rw[FY]
 first|(simp_all;done)|(simp_all;omega)|(repeat' split)<;>first|(simp_all;done)|(simp_all;omega)|omega

theorem Dh(hf:Qi st)(n s:Nat)(y:Bool)(z:Bool)(hs:s<2): ∃v st',Jf 166 [iN s,.bool false,.bool y,.bool z] st v st'∧v=iZ (Jp [115,105,110,103] n s false y z)∧Qt st st':=by
 refine J7 Tryz.func166 Tryz.ntmps166 fun T K=>?_;have M:=Mem.start hf;refine Qb 7 K M ?_;refine⟨congrArg (AV.int .i64) ?_,M.qt⟩;clear M K;rw[FY]
 first|(simp_all;done)|(simp_all;omega)|(repeat' split)<;>first|(simp_all;done)|(simp_all;omega)|omega

theorem Mg(hf:Qi st)(n s:Nat)(x y z:Bool)(hs:s<2): ∃v st',Jf 166 [.int .i64 (s:Nat),.bool x,.bool y,.bool z] st v st'∧v=.int .i64 (Jp [115,105,110,103] n s x y z)∧Qt st st':=by
 cases x
 ·exact Dh hf n s y z hs
 ·exact Dg hf n s y z hs

theorem RX(hf:Qi st)(n s:Nat)(y:Bool)(z:Bool)(hs:s<2): ∃v st',Jf 167 [iN s,.bool true,.bool y,.bool z] st v st'∧v=iZ (Jp [102,108,97,103] n s true y z)∧Qt st st':=by
 refine J7 Tryz.func167 Tryz.ntmps167 fun T K=>?_;have M:=Mem.start hf;refine Qb 3 K M fun _ K=>?_;refine Ug K rfl (fun _ e11 K=>?_) fun _ e11 K=>?_
 ·refine Qb 4 K M ?_;refine⟨congrArg (AV.int .i64) ?_,M.qt⟩;clear M K;rw[Eh]
  first|(simp_all;done)|(simp_all;omega)|(repeat' split)<;>first|(simp_all;done)|(simp_all;omega)|omega
 refine Qb 4 K M ?_;refine⟨congrArg (AV.int .i64) ?_,M.qt⟩;clear M K;rw[Eh]
 first|(simp_all;done)|(simp_all;omega)|(repeat' split)<;>first|(simp_all;done)|(simp_all;omega)|omega

theorem RY(hf:Qi st)(n s:Nat)(y:Bool)(z:Bool)(hs:s<2): ∃v st',Jf 167 [iN s,.bool false,.bool y,.bool z] st v st'∧v=iZ (Jp [102,108,97,103] n s false y z)∧Qt st st':=by
 refine J7 Tryz.func167 Tryz.ntmps167 fun T K=>?_;have M:=Mem.start hf;refine Qb 3 K M fun _ K=>?_;refine Ug K rfl (fun _ e11 K=>?_) fun _ e11 K=>?_
 ·refine Qb 4 K M ?_;refine⟨congrArg (AV.int .i64) ?_,M.qt⟩;clear M K;rw[Eh]
  first|(simp_all;done)|(simp_all;omega)|(repeat' split)<;>first|(simp_all;done)|(simp_all;omega)|omega
 refine Qb 4 K M ?_;refine⟨congrArg (AV.int .i64) ?_,M.qt⟩;clear M K;rw[Eh]
 first|(simp_all;done)|(simp_all;omega)|(repeat' split)<;>first|(simp_all;done)|(simp_all;omega)|omega

theorem yl(hf:Qi st)(n s:Nat)(x y z:Bool)(hs:s<2): ∃v st',Jf 167 [.int .i64 (s:Nat),.bool x,.bool y,.bool z] st v st'∧v=.int .i64 (Jp [102,108,97,103] n s x y z)∧Qt st st':=by
 cases x
 ·exact RY hf n s y z hs
 ·exact RX hf n s y z hs

theorem DL(hf:Qi st)(n s:Nat)(z:Bool)(hs:s<3): ∃v st',Jf 168 [iN s,.bool true,.bool true,.bool z] st v st'∧v=iZ (Jp [108,101,115,115] n s true true z)∧Qt st st':=by
 refine J7 Tryz.func168 Tryz.ntmps168 fun T K=>?_;have M:=Mem.start hf;refine Qb 11 K M fun _ K=>?_;refine Ug K rfl (fun _ e20 K=>?_) fun _ e20 K=>?_
 ·refine Qb 10 K M fun _ K=>?_;refine Ug K rfl (fun _ e30 K=>?_) fun _ e30 K=>?_
  ·refine Qb 9 K M ?_;refine⟨congrArg (AV.int .i64) ?_,M.qt⟩;clear M K;rw[Yk]
   first|(simp_all;done)|(simp_all;omega)|(repeat' split)<;>first|(simp_all;done)|(simp_all;omega)|omega
  refine Qb 9 K M ?_;refine⟨congrArg (AV.int .i64) ?_,M.qt⟩;clear M K;rw[Yk]
  first|(simp_all;done)|(simp_all;omega)|(repeat' split)<;>first|(simp_all;done)|(simp_all;omega)|omega
 refine Qb 10 K M fun _ K=>?_;refine Ug K rfl (fun _ e30 K=>?_) fun _ e30 K=>?_
 ·refine Qb 9 K M ?_;refine⟨congrArg (AV.int .i64) ?_,M.qt⟩;clear M K;rw[Yk]
  first|(simp_all;done)|(simp_all;omega)|(repeat' split)<;>first|(simp_all;done)|(simp_all;omega)|omega
 exact XW

theorem DM(hf:Qi st)(n s:Nat)(z:Bool)(hs:s<3): ∃v st',Jf 168 [iN s,.bool true,.bool false,.bool z] st v st'∧v=iZ (Jp [108,101,115,115] n s true false z)∧Qt st st':=by
 refine J7 Tryz.func168 Tryz.ntmps168 fun T K=>?_;have M:=Mem.start hf;refine Qb 11 K M fun _ K=>?_;refine Ug K rfl (fun _ e20 K=>?_) fun _ e20 K=>?_
 ·refine Qb 10 K M fun _ K=>?_;refine Ug K rfl (fun _ e30 K=>?_) fun _ e30 K=>?_
  ·refine Qb 9 K M ?_;refine⟨congrArg (AV.int .i64) ?_,M.qt⟩;clear M K;rw[Yk]
   first|(simp_all;done)|(simp_all;omega)|(repeat' split)<;>first|(simp_all;done)|(simp_all;omega)|omega
  refine Qb 9 K M ?_;refine⟨congrArg (AV.int .i64) ?_,M.qt⟩;clear M K;rw[Yk]
  first|(simp_all;done)|(simp_all;omega)|(repeat' split)<;>first|(simp_all;done)|(simp_all;omega)|omega
 refine Qb 9 K M ?_;refine⟨congrArg (AV.int .i64) ?_,M.qt⟩;clear M K;rw[Yk]
 first|(simp_all;done)|(simp_all;omega)|(repeat' split)<;>first|(simp_all;done)|(simp_all;omega)|omega

theorem DN(hf:Qi st)(n s:Nat)(z:Bool)(hs:s<3): ∃v st',Jf 168 [iN s,.bool false,.bool true,.bool z] st v st'∧v=iZ (Jp [108,101,115,115] n s false true z)∧Qt st st':=by
 refine J7 Tryz.func168 Tryz.ntmps168 fun T K=>?_;have M:=Mem.start hf;refine Qb 11 K M fun _ K=>?_;refine Ug K rfl (fun _ e20 K=>?_) fun _ e20 K=>?_
 ·refine Qb 10 K M fun _ K=>?_;refine Ug K rfl (fun _ e30 K=>?_) fun _ e30 K=>?_
  ·refine Qb 9 K M ?_;refine⟨congrArg (AV.int .i64) ?_,M.qt⟩;clear M K;rw[Yk]
   first|(simp_all;done)|(simp_all;omega)|(repeat' split)<;>first|(simp_all;done)|(simp_all;omega)|omega
  refine Qb 9 K M ?_;refine⟨congrArg (AV.int .i64) ?_,M.qt⟩;clear M K;rw[Yk]
  first|(simp_all;done)|(simp_all;omega)|(repeat' split)<;>first|(simp_all;done)|(simp_all;omega)|omega
 refine Qb 10 K M fun _ K=>?_;refine Ug K rfl (fun _ e30 K=>?_) fun _ e30 K=>?_
 ·refine Qb 9 K M ?_;refine⟨congrArg (AV.int .i64) ?_,M.qt⟩;clear M K;rw[Yk]
  first|(simp_all;done)|(simp_all;omega)|(repeat' split)<;>first|(simp_all;done)|(simp_all;omega)|omega
 exact XW

theorem DO(hf:Qi st)(n s:Nat)(z:Bool)(hs:s<3): ∃v st',Jf 168 [iN s,.bool false,.bool false,.bool z] st v st'∧v=iZ (Jp [108,101,115,115] n s false false z)∧Qt st st':=by
 refine J7 Tryz.func168 Tryz.ntmps168 fun T K=>?_;have M:=Mem.start hf;refine Qb 11 K M ?_;refine⟨congrArg (AV.int .i64) ?_,M.qt⟩;clear M K;rw[Yk]
 first|(simp_all;done)|(simp_all;omega)|(repeat' split)<;>first|(simp_all;done)|(simp_all;omega)|omega

theorem uI(hf:Qi st)(n s:Nat)(x y z:Bool)(hs:s<3): ∃v st',Jf 168 [.int .i64 (s:Nat),.bool x,.bool y,.bool z] st v st'∧v=.int .i64 (Jp [108,101,115,115] n s x y z)∧Qt st st':=by
 cases x
 ·cases y
  ·exact DO hf n s z hs
  ·exact DN hf n s z hs
 ·cases y
  ·exact DM hf n s z hs
  ·exact DL hf n s z hs

theorem Om(hf:Qi st)(n s:Nat)(z:Bool)(hs:s<n+2)(hn:n≤20)(h1:Qx st.h.get c1 0 [iN n])(h3:Qx st.h.get c3 0 [iZ (n+1:Nat)]): ∃v st',Jf 175 [iN s,.bool true,.bool true,.bool z,.ptr c1 0 0,.ptr c3 0 0] st v st'∧v=iZ (Jp [112,108,117,115] n s true true z)∧Qt st st':=by
 refine J7 Tryz.func175 Tryz.ntmps175 fun T K=>?_;have M:=Mem.start hf;refine Qb 3 K M fun _ K=>?_;refine Ug K rfl (fun _ e14 K=>?_) fun _ e14 K=>?_
 ·refine Qb 12 K M fun _ K=>?_;refine Ug K rfl (fun _ e26 K=>?_) fun _ e26 K=>?_
  ·refine Qb 10 K M fun _ K=>?_;refine p1 K (Qg rfl (Qw (M.JF Q4 h3.Jb) (Qd Qn rfl))) fun _ K=>?_;refine Qb 1 K M fun _ K=>?_;refine Ug K rfl (fun _ e37 K=>?_) fun _ e37 K=>?_
   ·refine Qb 11 K M fun _ K=>?_;refine Ug K rfl (fun _ e49 K=>?_) fun _ e49 K=>?_
    ·exact XW
    refine Qb 1 K M fun _ K=>?_;refine pg K rfl rfl (Qg rfl (Qw (M.JF Q4 h3.Jb) (Qd Qn rfl))) fun _ K=>?_;refine Qb 2 K M fun _ K=>?_;refine Ug K rfl (fun _ e54 K=>?_) fun _ e54 K=>?_
    ·exact XW
    refine Qb 13 K M ?_;refine⟨congrArg (AV.int .i64) ?_,M.qt⟩;clear M K;rw[JT]
    first|(simp_all;done)|(simp_all;omega)|(repeat' split)<;>first|(simp_all;done)|(simp_all;omega)|omega
   refine Qb 11 K M fun _ K=>?_;refine Ug K rfl (fun _ e49 K=>?_) fun _ e49 K=>?_
   ·exact XW
   refine Qb 1 K M fun _ K=>?_;refine pg K rfl rfl (Qg rfl (Qw (M.JF Q4 h3.Jb) (Qd Qn rfl))) fun _ K=>?_;refine Qb 2 K M fun _ K=>?_;refine Ug K rfl (fun _ e54 K=>?_) fun _ e54 K=>?_
   ·refine Qb 13 K M ?_;refine⟨congrArg (AV.int .i64) ?_,M.qt⟩;clear M K;rw[JT]
    first|(simp_all;done)|(simp_all;omega)|(repeat' split)<;>first|(simp_all;done)|(simp_all;omega)|omega
   exact XW
  exact XW
 refine Qb 4 K M fun _ K=>?_;refine pg K rfl rfl (Qg rfl (Qw (M.JF Q4 h1.Jb) (Qd Qn rfl))) fun _ K=>?_;refine Qb 1 K M fun _ K=>?_;refine pg K rfl rfl (ZY Y7 rfl rfl) fun _ K=>?_;refine Qb 2 K M fun _ K=>?_;refine Uq K rfl (fun h11=>?_) fun h11=>?_
 ·have hb11:=h11;refine Qb 1 K M ?_;refine⟨congrArg (AV.int .i64) ?_,M.qt⟩;clear M K;rw[JT]
  first|(simp_all;done)|(simp_all;omega)|(repeat' split)<;>first|(simp_all;done)|(simp_all;omega)|omega
 have hb11:=h11;refine Qb 2 K M fun _ K=>?_;refine Ug K rfl (fun _ e26 K=>?_) fun _ e26 K=>?_
 ·exact XW
 refine Qb 10 K M fun _ K=>?_;refine p1 K (Qg rfl (Qw (M.JF Q4 h3.Jb) (Qd Qn rfl))) fun _ K=>?_;refine Qb 1 K M fun _ K=>?_;refine Ug K rfl (fun _ e37 K=>?_) fun _ e37 K=>?_
 ·refine Qb 11 K M fun _ K=>?_;refine Ug K rfl (fun _ e49 K=>?_) fun _ e49 K=>?_
  ·refine Qb 18 K M ?_;refine⟨congrArg (AV.int .i64) ?_,M.qt⟩;clear M K;rw[JT]
   first|(simp_all;done)|(simp_all;omega)|(repeat' split)<;>first|(simp_all;done)|(simp_all;omega)|omega
  exact XW
 exact XW

theorem On(hf:Qi st)(n s:Nat)(z:Bool)(hs:s<n+2)(hn:n≤20)(h1:Qx st.h.get c1 0 [iN n])(h3:Qx st.h.get c3 0 [iZ (n+1:Nat)]): ∃v st',Jf 175 [iN s,.bool true,.bool false,.bool z,.ptr c1 0 0,.ptr c3 0 0] st v st'∧v=iZ (Jp [112,108,117,115] n s true false z)∧Qt st st':=by
 refine J7 Tryz.func175 Tryz.ntmps175 fun T K=>?_;have M:=Mem.start hf;refine Qb 3 K M fun _ K=>?_;refine Ug K rfl (fun _ e14 K=>?_) fun _ e14 K=>?_
 ·refine Qb 12 K M fun _ K=>?_;refine Ug K rfl (fun _ e26 K=>?_) fun _ e26 K=>?_
  ·refine Qb 10 K M fun _ K=>?_;refine p1 K (Qg rfl (Qw (M.JF Q4 h3.Jb) (Qd Qn rfl))) fun _ K=>?_;refine Qb 1 K M fun _ K=>?_;refine Ug K rfl (fun _ e37 K=>?_) fun _ e37 K=>?_
   ·refine Qb 11 K M fun _ K=>?_;refine Ug K rfl (fun _ e49 K=>?_) fun _ e49 K=>?_
    ·exact XW
    refine Qb 1 K M fun _ K=>?_;refine pg K rfl rfl (Qg rfl (Qw (M.JF Q4 h3.Jb) (Qd Qn rfl))) fun _ K=>?_;refine Qb 2 K M fun _ K=>?_;refine Ug K rfl (fun _ e54 K=>?_) fun _ e54 K=>?_
    ·exact XW
    refine Qb 13 K M ?_;refine⟨congrArg (AV.int .i64) ?_,M.qt⟩;clear M K;rw[JT]
    first|(simp_all;done)|(simp_all;omega)|(repeat' split)<;>first|(simp_all;done)|(simp_all;omega)|omega
   refine Qb 11 K M fun _ K=>?_;refine Ug K rfl (fun _ e49 K=>?_) fun _ e49 K=>?_
   ·exact XW
   refine Qb 1 K M fun _ K=>?_;refine pg K rfl rfl (Qg rfl (Qw (M.JF Q4 h3.Jb) (Qd Qn rfl))) fun _ K=>?_;refine Qb 2 K M fun _ K=>?_;refine Ug K rfl (fun _ e54 K=>?_) fun _ e54 K=>?_
   ·refine Qb 13 K M ?_;refine⟨congrArg (AV.int .i64) ?_,M.qt⟩;clear M K;rw[JT]
    first|(simp_all;done)|(simp_all;omega)|(repeat' split)<;>first|(simp_all;done)|(simp_all;omega)|omega
   exact XW
  exact XW
 refine Qb 4 K M fun _ K=>?_;refine pg K rfl rfl (Qg rfl (Qw (M.JF Q4 h1.Jb) (Qd Qn rfl))) fun _ K=>?_;refine Qb 1 K M fun _ K=>?_;refine pg K rfl rfl (ZY Y7 rfl rfl) fun _ K=>?_;refine Qb 2 K M fun _ K=>?_;refine Uq K rfl (fun h11=>?_) fun h11=>?_
 ·have hb11:=h11;refine Qb 1 K M ?_;refine⟨congrArg (AV.int .i64) ?_,M.qt⟩;clear M K;rw[JT]
  first|(simp_all;done)|(simp_all;omega)|(repeat' split)<;>first|(simp_all;done)|(simp_all;omega)|omega
 have hb11:=h11;refine Qb 2 K M fun _ K=>?_;refine Ug K rfl (fun _ e26 K=>?_) fun _ e26 K=>?_
 ·exact XW
 refine Qb 10 K M fun _ K=>?_;refine p1 K (Qg rfl (Qw (M.JF Q4 h3.Jb) (Qd Qn rfl))) fun _ K=>?_;refine Qb 1 K M fun _ K=>?_;refine Ug K rfl (fun _ e37 K=>?_) fun _ e37 K=>?_
 ·refine Qb 11 K M fun _ K=>?_;refine Ug K rfl (fun _ e49 K=>?_) fun _ e49 K=>?_
  ·refine Qb 18 K M ?_;refine⟨congrArg (AV.int .i64) ?_,M.qt⟩;clear M K;rw[JT]
   first|(simp_all;done)|(simp_all;omega)|(repeat' split)<;>first|(simp_all;done)|(simp_all;omega)|omega
  exact XW
 exact XW

theorem Oo(hf:Qi st)(n s:Nat)(z:Bool)(hs:s<n+2)(hn:n≤20)(h1:Qx st.h.get c1 0 [iN n])(h3:Qx st.h.get c3 0 [iZ (n+1:Nat)]): ∃v st',Jf 175 [iN s,.bool false,.bool true,.bool z,.ptr c1 0 0,.ptr c3 0 0] st v st'∧v=iZ (Jp [112,108,117,115] n s false true z)∧Qt st st':=by
 refine J7 Tryz.func175 Tryz.ntmps175 fun T K=>?_;have M:=Mem.start hf;refine Qb 3 K M fun _ K=>?_;refine Ug K rfl (fun _ e14 K=>?_) fun _ e14 K=>?_
 ·refine Qb 12 K M fun _ K=>?_;refine Ug K rfl (fun _ e26 K=>?_) fun _ e26 K=>?_
  ·refine Qb 10 K M fun _ K=>?_;refine p1 K (Qg rfl (Qw (M.JF Q4 h3.Jb) (Qd Qn rfl))) fun _ K=>?_;refine Qb 1 K M fun _ K=>?_;refine Ug K rfl (fun _ e37 K=>?_) fun _ e37 K=>?_
   ·refine Qb 11 K M fun _ K=>?_;refine Ug K rfl (fun _ e49 K=>?_) fun _ e49 K=>?_
    ·exact XW
    refine Qb 1 K M fun _ K=>?_;refine pg K rfl rfl (Qg rfl (Qw (M.JF Q4 h3.Jb) (Qd Qn rfl))) fun _ K=>?_;refine Qb 2 K M fun _ K=>?_;refine Ug K rfl (fun _ e54 K=>?_) fun _ e54 K=>?_
    ·exact XW
    refine Qb 6 K M fun _ K=>?_;refine pg K rfl rfl (Qg rfl (Qw (M.JF Q4 h1.Jb) (Qd Qn rfl))) fun _ K=>?_;refine Qb 1 K M fun _ K=>?_;refine pg K rfl rfl (ZY Y7 rfl rfl) fun _ K=>?_;refine Qb 2 K M fun _ K=>?_;refine Uq K rfl (fun h46=>?_) fun h46=>?_
    ·have hb46:=h46;refine Qb 3 K M ?_;refine⟨congrArg (AV.int .i64) ?_,M.qt⟩;clear M K;rw[JT]
     first|(simp_all;done)|(simp_all;omega)|(repeat' split)<;>first|(simp_all;done)|(simp_all;omega)|omega
    have hb46:=h46;refine Qb 1 K M ?_;refine⟨congrArg (AV.int .i64) ?_,M.qt⟩;clear M K;rw[JT]
    first|(simp_all;done)|(simp_all;omega)|(repeat' split)<;>first|(simp_all;done)|(simp_all;omega)|omega
   refine Qb 11 K M fun _ K=>?_;refine Ug K rfl (fun _ e49 K=>?_) fun _ e49 K=>?_
   ·exact XW
   refine Qb 1 K M fun _ K=>?_;refine pg K rfl rfl (Qg rfl (Qw (M.JF Q4 h3.Jb) (Qd Qn rfl))) fun _ K=>?_;refine Qb 2 K M fun _ K=>?_;refine Ug K rfl (fun _ e54 K=>?_) fun _ e54 K=>?_
   ·refine Qb 13 K M ?_;refine⟨congrArg (AV.int .i64) ?_,M.qt⟩;clear M K;rw[JT]
    first|(simp_all;done)|(simp_all;omega)|(repeat' split)<;>first|(simp_all;done)|(simp_all;omega)|omega
   exact XW
  exact XW
 refine Qb 12 K M fun _ K=>?_;refine Ug K rfl (fun _ e26 K=>?_) fun _ e26 K=>?_
 ·exact XW
 refine Qb 10 K M fun _ K=>?_;refine p1 K (Qg rfl (Qw (M.JF Q4 h3.Jb) (Qd Qn rfl))) fun _ K=>?_;refine Qb 1 K M fun _ K=>?_;refine Ug K rfl (fun _ e37 K=>?_) fun _ e37 K=>?_
 ·refine Qb 11 K M fun _ K=>?_;refine Ug K rfl (fun _ e49 K=>?_) fun _ e49 K=>?_
  ·refine Qb 18 K M ?_;refine⟨congrArg (AV.int .i64) ?_,M.qt⟩;clear M K;rw[JT]
   first|(simp_all;done)|(simp_all;omega)|(repeat' split)<;>first|(simp_all;done)|(simp_all;omega)|omega
  exact XW
 exact XW

theorem Oq(hf:Qi st)(n s:Nat)(z:Bool)(hs:s<n+2)(hn:n≤20)(h1:Qx st.h.get c1 0 [iN n])(h3:Qx st.h.get c3 0 [iZ (n+1:Nat)]): ∃v st',Jf 175 [iN s,.bool false,.bool false,.bool z,.ptr c1 0 0,.ptr c3 0 0] st v st'∧v=iZ (Jp [112,108,117,115] n s false false z)∧Qt st st':=by
 refine J7 Tryz.func175 Tryz.ntmps175 fun T K=>?_;have M:=Mem.start hf;refine Qb 3 K M fun _ K=>?_;refine Ug K rfl (fun _ e14 K=>?_) fun _ e14 K=>?_
 ·refine Qb 12 K M fun _ K=>?_;refine Ug K rfl (fun _ e26 K=>?_) fun _ e26 K=>?_
  ·refine Qb 10 K M fun _ K=>?_;refine p1 K (Qg rfl (Qw (M.JF Q4 h3.Jb) (Qd Qn rfl))) fun _ K=>?_;refine Qb 1 K M fun _ K=>?_;refine Ug K rfl (fun _ e37 K=>?_) fun _ e37 K=>?_
   ·refine Qb 11 K M fun _ K=>?_;refine Ug K rfl (fun _ e49 K=>?_) fun _ e49 K=>?_
    ·exact XW
    refine Qb 1 K M fun _ K=>?_;refine pg K rfl rfl (Qg rfl (Qw (M.JF Q4 h3.Jb) (Qd Qn rfl))) fun _ K=>?_;refine Qb 2 K M fun _ K=>?_;refine Ug K rfl (fun _ e54 K=>?_) fun _ e54 K=>?_
    ·exact XW
    refine Qb 6 K M fun _ K=>?_;refine pg K rfl rfl (Qg rfl (Qw (M.JF Q4 h1.Jb) (Qd Qn rfl))) fun _ K=>?_;refine Qb 1 K M fun _ K=>?_;refine pg K rfl rfl (ZY Y7 rfl rfl) fun _ K=>?_;refine Qb 2 K M fun _ K=>?_;refine Uq K rfl (fun h46=>?_) fun h46=>?_
    ·have hb46:=h46;refine Qb 3 K M ?_;refine⟨congrArg (AV.int .i64) ?_,M.qt⟩;clear M K;rw[JT]
     first|(simp_all;done)|(simp_all;omega)|(repeat' split)<;>first|(simp_all;done)|(simp_all;omega)|omega
    have hb46:=h46;refine Qb 1 K M ?_;refine⟨congrArg (AV.int .i64) ?_,M.qt⟩;clear M K;rw[JT]
    first|(simp_all;done)|(simp_all;omega)|(repeat' split)<;>first|(simp_all;done)|(simp_all;omega)|omega
   refine Qb 11 K M ?_;refine⟨congrArg (AV.int .i64) ?_,M.qt⟩;clear M K;rw[JT]
   first|(simp_all;done)|(simp_all;omega)|(repeat' split)<;>first|(simp_all;done)|(simp_all;omega)|omega
  exact XW
 refine Qb 12 K M fun _ K=>?_;refine Ug K rfl (fun _ e26 K=>?_) fun _ e26 K=>?_
 ·exact XW
 refine Qb 12 K M ?_;refine⟨congrArg (AV.int .i64) ?_,M.qt⟩;clear M K;rw[JT]
 first|(simp_all;done)|(simp_all;omega)|(repeat' split)<;>first|(simp_all;done)|(simp_all;omega)|omega

theorem Pt(hf:Qi st)(n s:Nat)(x y z:Bool)(hs:s<n+2)(hn:n≤20)(h1:Qx st.h.get c1 0 [.int .i64 (n:Nat)])(h3:Qx st.h.get c3 0 [.int .i64 (n+1:Nat)]): ∃v st',Jf 175 [.int .i64 (s:Nat),.bool x,.bool y,.bool z,.ptr c1 0 0,.ptr c3 0 0] st v st'∧v=.int .i64 (Jp [112,108,117,115] n s x y z)∧Qt st st':=by
 cases x
 ·cases y
  ·exact Oq hf n s z hs hn h1 h3
  ·exact Oo hf n s z hs hn h1 h3
 ·cases y
  ·exact On hf n s z hs hn h1 h3
  ·exact Om hf n s z hs hn h1 h3

theorem OL(hf:Qi st)(n s:Nat)(z:Bool)(hs:s<n+2)(hn:n≤20)(h1:Qx st.h.get c1 0 [iN n])(h3:Qx st.h.get c3 0 [iZ (n+1:Nat)]): ∃v st',Jf 176 [iN s,.bool true,.bool true,.bool z,.ptr c3 0 0,.ptr c1 0 0] st v st'∧v=iZ (Jp [110,117,109] n s true true z)∧Qt st st':=by
 refine J7 Tryz.func176 Tryz.ntmps176 fun T K=>?_;have M:=Mem.start hf;refine Qb 2 K M fun _ K=>?_;refine p1 K (Qg rfl (Qw (M.JF Q4 h3.Jb) (Qd Qn rfl))) fun _ K=>?_;refine Qb 1 K M fun _ K=>?_;refine Ug K rfl (fun _ e15 K=>?_) fun _ e15 K=>?_
 ·refine Qb 9 K M fun _ K=>?_;refine p1 K (Qg rfl (Qw (M.JF Q4 h3.Jb) (Qd Qn rfl))) fun _ K=>?_;refine Qb 1 K M fun _ K=>?_;refine Ug K rfl (fun _ e28 K=>?_) fun _ e28 K=>?_
  ·exact XW
  refine Qb 6 K M ?_;refine⟨congrArg (AV.int .i64) ?_,M.qt⟩;clear M K;rw[Yc]
  first|(simp_all;done)|(simp_all;omega)|(repeat' split)<;>first|(simp_all;done)|(simp_all;omega)|omega
 refine Qb 2 K M fun _ K=>?_;refine pg K rfl rfl (Qg rfl (Qw (M.JF Q4 h1.Jb) (Qd Qn rfl))) fun _ K=>?_;refine Qb 1 K M fun _ K=>?_;refine pg K rfl rfl (ZY Y7 rfl rfl) fun _ K=>?_;refine Qb 2 K M fun _ K=>?_;refine Uq K rfl (fun h11=>?_) fun h11=>?_
 ·have hb11:=h11;refine Qb 3 K M ?_;refine⟨congrArg (AV.int .i64) ?_,M.qt⟩;clear M K;rw[Yc]
  first|(simp_all;done)|(simp_all;omega)|(repeat' split)<;>first|(simp_all;done)|(simp_all;omega)|omega
 have hb11:=h11;refine Qb 1 K M fun _ K=>?_;refine p1 K (Qg rfl (Qw (M.JF Q4 h3.Jb) (Qd Qn rfl))) fun _ K=>?_;refine Qb 1 K M fun _ K=>?_;refine Ug K rfl (fun _ e28 K=>?_) fun _ e28 K=>?_
 ·refine Qb 6 K M ?_;refine⟨congrArg (AV.int .i64) ?_,M.qt⟩;clear M K;rw[Yc]
  first|(simp_all;done)|(simp_all;omega)|(repeat' split)<;>first|(simp_all;done)|(simp_all;omega)|omega
 exact XW

theorem OM(hf:Qi st)(n s:Nat)(z:Bool)(hs:s<n+2)(hn:n≤20)(h1:Qx st.h.get c1 0 [iN n])(h3:Qx st.h.get c3 0 [iZ (n+1:Nat)]): ∃v st',Jf 176 [iN s,.bool true,.bool false,.bool z,.ptr c3 0 0,.ptr c1 0 0] st v st'∧v=iZ (Jp [110,117,109] n s true false z)∧Qt st st':=by
 refine J7 Tryz.func176 Tryz.ntmps176 fun T K=>?_;have M:=Mem.start hf;refine Qb 2 K M fun _ K=>?_;refine p1 K (Qg rfl (Qw (M.JF Q4 h3.Jb) (Qd Qn rfl))) fun _ K=>?_;refine Qb 1 K M fun _ K=>?_;refine Ug K rfl (fun _ e15 K=>?_) fun _ e15 K=>?_
 ·refine Qb 9 K M fun _ K=>?_;refine p1 K (Qg rfl (Qw (M.JF Q4 h3.Jb) (Qd Qn rfl))) fun _ K=>?_;refine Qb 1 K M fun _ K=>?_;refine Ug K rfl (fun _ e28 K=>?_) fun _ e28 K=>?_
  ·exact XW
  refine Qb 6 K M ?_;refine⟨congrArg (AV.int .i64) ?_,M.qt⟩;clear M K;rw[Yc]
  first|(simp_all;done)|(simp_all;omega)|(repeat' split)<;>first|(simp_all;done)|(simp_all;omega)|omega
 refine Qb 2 K M fun _ K=>?_;refine pg K rfl rfl (Qg rfl (Qw (M.JF Q4 h1.Jb) (Qd Qn rfl))) fun _ K=>?_;refine Qb 1 K M fun _ K=>?_;refine pg K rfl rfl (ZY Y7 rfl rfl) fun _ K=>?_;refine Qb 2 K M fun _ K=>?_;refine Uq K rfl (fun h11=>?_) fun h11=>?_
 ·have hb11:=h11;refine Qb 3 K M ?_;refine⟨congrArg (AV.int .i64) ?_,M.qt⟩;clear M K;rw[Yc]
  first|(simp_all;done)|(simp_all;omega)|(repeat' split)<;>first|(simp_all;done)|(simp_all;omega)|omega
 have hb11:=h11;refine Qb 1 K M fun _ K=>?_;refine p1 K (Qg rfl (Qw (M.JF Q4 h3.Jb) (Qd Qn rfl))) fun _ K=>?_;refine Qb 1 K M fun _ K=>?_;refine Ug K rfl (fun _ e28 K=>?_) fun _ e28 K=>?_
 ·refine Qb 6 K M ?_;refine⟨congrArg (AV.int .i64) ?_,M.qt⟩;clear M K;rw[Yc]
  first|(simp_all;done)|(simp_all;omega)|(repeat' split)<;>first|(simp_all;done)|(simp_all;omega)|omega
 exact XW

theorem ON(hf:Qi st)(n s:Nat)(z:Bool)(hs:s<n+2)(hn:n≤20)(h1:Qx st.h.get c1 0 [iN n])(h3:Qx st.h.get c3 0 [iZ (n+1:Nat)]): ∃v st',Jf 176 [iN s,.bool false,.bool true,.bool z,.ptr c3 0 0,.ptr c1 0 0] st v st'∧v=iZ (Jp [110,117,109] n s false true z)∧Qt st st':=by
 refine J7 Tryz.func176 Tryz.ntmps176 fun T K=>?_;have M:=Mem.start hf;refine Qb 2 K M fun _ K=>?_;refine p1 K (Qg rfl (Qw (M.JF Q4 h3.Jb) (Qd Qn rfl))) fun _ K=>?_;refine Qb 1 K M fun _ K=>?_;refine Ug K rfl (fun _ e15 K=>?_) fun _ e15 K=>?_
 ·refine Qb 9 K M fun _ K=>?_;refine p1 K (Qg rfl (Qw (M.JF Q4 h3.Jb) (Qd Qn rfl))) fun _ K=>?_;refine Qb 1 K M fun _ K=>?_;refine Ug K rfl (fun _ e28 K=>?_) fun _ e28 K=>?_
  ·exact XW
  refine Qb 5 K M fun _ K=>?_;refine p1 K (Qg rfl (Qw (M.JF Q4 h3.Jb) (Qd Qn rfl))) fun _ K=>?_;refine Qb 1 K M ?_;refine⟨congrArg (AV.int .i64) ?_,M.qt⟩;clear M K;rw[Yc]
  first|(simp_all;done)|(simp_all;omega)|(repeat' split)<;>first|(simp_all;done)|(simp_all;omega)|omega
 refine Qb 2 K M fun _ K=>?_;refine pg K rfl rfl (Qg rfl (Qw (M.JF Q4 h1.Jb) (Qd Qn rfl))) fun _ K=>?_;refine Qb 1 K M fun _ K=>?_;refine pg K rfl rfl (ZY Y7 rfl rfl) fun _ K=>?_;refine Qb 2 K M fun _ K=>?_;refine Uq K rfl (fun h11=>?_) fun h11=>?_
 ·have hb11:=h11;refine Qb 3 K M ?_;refine⟨congrArg (AV.int .i64) ?_,M.qt⟩;clear M K;rw[Yc]
  first|(simp_all;done)|(simp_all;omega)|(repeat' split)<;>first|(simp_all;done)|(simp_all;omega)|omega
 have hb11:=h11;refine Qb 1 K M fun _ K=>?_;refine p1 K (Qg rfl (Qw (M.JF Q4 h3.Jb) (Qd Qn rfl))) fun _ K=>?_;refine Qb 1 K M fun _ K=>?_;refine Ug K rfl (fun _ e28 K=>?_) fun _ e28 K=>?_
 ·refine Qb 6 K M ?_;refine⟨congrArg (AV.int .i64) ?_,M.qt⟩;clear M K;rw[Yc]
  first|(simp_all;done)|(simp_all;omega)|(repeat' split)<;>first|(simp_all;done)|(simp_all;omega)|omega
 exact XW

theorem OO(hf:Qi st)(n s:Nat)(z:Bool)(hs:s<n+2)(hn:n≤20)(h1:Qx st.h.get c1 0 [iN n])(h3:Qx st.h.get c3 0 [iZ (n+1:Nat)]): ∃v st',Jf 176 [iN s,.bool false,.bool false,.bool z,.ptr c3 0 0,.ptr c1 0 0] st v st'∧v=iZ (Jp [110,117,109] n s false false z)∧Qt st st':=by
 refine J7 Tryz.func176 Tryz.ntmps176 fun T K=>?_;have M:=Mem.start hf;refine Qb 2 K M fun _ K=>?_;refine p1 K (Qg rfl (Qw (M.JF Q4 h3.Jb) (Qd Qn rfl))) fun _ K=>?_;refine Qb 1 K M fun _ K=>?_;refine Ug K rfl (fun _ e15 K=>?_) fun _ e15 K=>?_
 ·refine Qb 9 K M fun _ K=>?_;refine p1 K (Qg rfl (Qw (M.JF Q4 h3.Jb) (Qd Qn rfl))) fun _ K=>?_;refine Qb 1 K M fun _ K=>?_;refine Ug K rfl (fun _ e28 K=>?_) fun _ e28 K=>?_
  ·exact XW
  refine Qb 5 K M fun _ K=>?_;refine p1 K (Qg rfl (Qw (M.JF Q4 h3.Jb) (Qd Qn rfl))) fun _ K=>?_;refine Qb 1 K M ?_;refine⟨congrArg (AV.int .i64) ?_,M.qt⟩;clear M K;rw[Yc]
  first|(simp_all;done)|(simp_all;omega)|(repeat' split)<;>first|(simp_all;done)|(simp_all;omega)|omega
 refine Qb 2 K M fun _ K=>?_;refine pg K rfl rfl (Qg rfl (Qw (M.JF Q4 h1.Jb) (Qd Qn rfl))) fun _ K=>?_;refine Qb 1 K M fun _ K=>?_;refine pg K rfl rfl (ZY Y7 rfl rfl) fun _ K=>?_;refine Qb 2 K M fun _ K=>?_;refine Uq K rfl (fun h11=>?_) fun h11=>?_
 ·have hb11:=h11;refine Qb 3 K M ?_;refine⟨congrArg (AV.int .i64) ?_,M.qt⟩;clear M K;rw[Yc]
  first|(simp_all;done)|(simp_all;omega)|(repeat' split)<;>first|(simp_all;done)|(simp_all;omega)|omega
 have hb11:=h11;refine Qb 1 K M fun _ K=>?_;refine p1 K (Qg rfl (Qw (M.JF Q4 h3.Jb) (Qd Qn rfl))) fun _ K=>?_;refine Qb 1 K M fun _ K=>?_;refine Ug K rfl (fun _ e28 K=>?_) fun _ e28 K=>?_
 ·refine Qb 6 K M ?_;refine⟨congrArg (AV.int .i64) ?_,M.qt⟩;clear M K;rw[Yc]
  first|(simp_all;done)|(simp_all;omega)|(repeat' split)<;>first|(simp_all;done)|(simp_all;omega)|omega
 exact XW

theorem RE(hf:Qi st)(n s:Nat)(x y z:Bool)(hs:s<n+2)(hn:n≤20)(h1:Qx st.h.get c1 0 [.int .i64 (n:Nat)])(h3:Qx st.h.get c3 0 [.int .i64 (n+1:Nat)]): ∃v st',Jf 176 [.int .i64 (s:Nat),.bool x,.bool y,.bool z,.ptr c3 0 0,.ptr c1 0 0] st v st'∧v=.int .i64 (Jp [110,117,109] n s x y z)∧Qt st st':=by
 cases x
 ·cases y
  ·exact OO hf n s z hs hn h1 h3
  ·exact ON hf n s z hs hn h1 h3
 ·cases y
  ·exact OM hf n s z hs hn h1 h3
  ·exact OL hf n s z hs hn h1 h3
end Go.Proofs.YtiknomepbklibaaGreatDoor
