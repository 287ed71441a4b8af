/-
  Atoms: the program's machines, its automata of atoms.
-/
import Derived.Test.YtiknomepbklibaaGreatDoorQhCof
import Derived.Test.YtiknomepbklibaaGreatDoorQhMnd
namespace Go.Proofs.YtiknomepbklibaaGreatDoor
open Go Go.RowKit
set_option maxHeartbeats 8000000
set_option linter.unusedVariables false
set_option linter.unusedSimpArgs false
set_option linter.unnecessarySimpa false
set_option linter.unusedSectionVars false
set_option maxRecDepth 100000
variable {M:QS} {c c1 c3 m n0:Nat} {h0:Hp} {l:List AV} {st:St}

def Hr(st:St)(f:FuncId)(fc:List AV)(o:List Nat)(n:Nat):Prop:= ∀st1,Qt st st1→ ∀(s:Nat) (x y z:Bool),s<Qv o n→ ∃v st2,Jh f ([]++([.int .i64 (s:Nat),.bool x,.bool y,.bool z]++fc)) st1 v st2∧v=.int .i64 (Jq o n s x y z)∧Qt st1 st2
def Hq(f:FuncId)(p:Bool→Bool→Bool→Bool):Prop:= ∀st1,Qi st1→ ∀x y z:Bool,∃v st2,Jh f [.bool x,.bool y,.bool z] st1 v st2∧v=.bool (p x y z)∧Qt st1 st2
theorem Ck(f:Nat):Gc (.fn f [] []) (.fn f [] [])=true:=by
 have h: ∀n:Nat,Nat.beq n n=true:=fun n=>by simp
 show Qj (Nat.beq f f) (Qj (AA [] []) (AA [] []) false) false=true;rw[h];rfl
theorem Ff(f c:Nat):Gc (.fn f [] [.ptr c 0 0]) (.fn f [] [.ptr c 0 0])=true:=by
 have h: ∀n:Nat,Nat.beq n n=true:=fun n=>by simp
 show Qj (Nat.beq f f) (Qj (AA [] []) (Qj (Qj (Nat.beq c c) true false) true false) false) false=true;rw[h,h];rfl
theorem Qy.later{st1:St}(r:Qy st.h.get c m l)(hf:Qi st)(q:Qt st st1):Qy st1.h.get c m l:=r.frame (q.JB c (r.lt hf))
theorem FP(n s:Nat)(x y z:Bool):Jq [115,105,110,103] n s x y z=(if x=false then((s:Nat):Int)else if s=0 then 1 else-1):=by
 unfold Jq;rw[if_neg Q9,if_neg Q9,if_neg Q9,if_neg Q9,if_neg Q9,if_neg Q9,if_pos rfl]
theorem Eh(n s:Nat)(x y z:Bool):Jq [102,108,97,103] n s x y z=(if s=1∨x=true then 1 else-1):=by
 unfold Jq;rw[if_neg Q9,if_neg Q9,if_neg Q9,if_neg Q9,if_neg Q9,if_neg Q9,if_neg Q9,if_pos rfl]
theorem Ym(n s:Nat)(x y z:Bool):Jq [108,101,115,115] n s x y z=(if x=false∧y=false then((s:Nat):Int)else if s=0∧x=true∧y=false then 1 else if s=1∧y=true∧x=false then 2 else-1):=by
 unfold Jq;rw[if_neg Q9,if_neg Q9,if_neg Q9,if_neg Q9,if_neg Q9,if_neg Q9,if_neg Q9,if_neg Q9,if_pos rfl]
theorem JU(n s:Nat)(x y z:Bool):Jq [112,108,117,115] n s x y z=(if s=0∧x=true∧y=decide (n=0)then 1 else if(s=0∧x=false∧y=false)∨(s=n+1∧x=false∧y=false)then((s:Nat):Int)else if 0<s∧s<n+1∧x=false∧y=decide (s=n)then((s+1:Nat):Int)else-1):=by
 unfold Jq;rw[if_neg Q9,if_neg Q9,if_neg Q9,if_neg Q9,if_neg Q9,if_neg Q9,if_neg Q9,if_neg Q9,if_neg Q9,if_pos rfl]
theorem Yd(n s:Nat)(x y z:Bool):Jq [110,117,109] n s x y z=(if s<n+1∧x=decide (s=n)then((s+1:Nat):Int)else if s=n+1∧x=false then((n+1:Nat):Int)else-1):=by
 unfold Jq;rw[if_neg Q9,if_neg Q9,if_neg Q9,if_neg Q9,if_neg Q9,if_neg Q9,if_neg Q9,if_neg Q9,if_neg Q9,if_neg Q9]
theorem Mem.XJ{X:List Nat}{st':St}(h:Mem h0 n0 X st M)(q:Qt st st')(r:Qy st'.h.get c m l)(hc:st.n≤c):Mem h0 n0 X st' (M++[(c,m,l)]):=by
 have h1:=h.quiet q;refine⟨h1.fresh,h1.le,h1.base,fun c' m' l' hm=>?_,fun c' m' l' hm=>?_,fun c' m' l' hm=>?_,?_,h1.JB⟩
 ·rcases List.mem_append.1 hm with hm|hm
  ·exact h1.row c' m' l' hm
  ·have e:=List.mem_singleton.1 hm
   injection e with e1 e;injection e with e2 e3
   subst e1 e2 e3;exact r
 ·rcases List.mem_append.1 hm with hm|hm
  ·exact h1.lt c' m' l' hm
  ·have e:=List.mem_singleton.1 hm
   injection e with e1 e
   rw[e1];exact r.lt q.fresh
 ·rcases List.mem_append.1 hm with hm|hm
  ·exact h1.own c' m' l' hm
  ·have e:=List.mem_singleton.1 hm
   injection e with e1 e
   rw[e1];exact .inl (Nat.le_trans h.le hc)
 ·rw[List.map_append];refine List.nodup_append.2 ⟨h1.nodup,by simp,fun a ha b hb e=>?_⟩;subst e;obtain⟨⟨c',m',l'⟩,e1,e2⟩:=List.mem_map.1 ha
  have e3:a=c:=by simpa using hb
  have e2:c'=a:=e2;have:=h.lt c' m' l' e1;omega
theorem Mem.jZ{k:Nat}(h:Mem h0 n0 [] st M)(hk:M[k]? =some (c,m,l)):n0≤c:=(h.own c m l (List.mem_of_getElem? hk)).resolve_right Q7
theorem Mem.Pw{X:List Nat}{st':St}{c2 m2:Nat}{l2:List AV}(h:Mem h0 n0 X st M)(q:Qt st st')(r:Qy st'.h.get c m l)(r2:Qy st'.h.get c2 m2 l2)(hc:st.n≤c)(hc2:st.n≤c2)(hne:c≠c2):Mem h0 n0 X st' (M++[(c,m,l),(c2,m2,l2)]):=by
 have h1:=h.quiet q;have a1:=h.XJ q r hc;have a2:=h.XJ q r2 hc2;refine⟨h1.fresh,h1.le,h1.base,fun c' m' l' hm=>?_,fun c' m' l' hm=>?_,fun c' m' l' hm=>?_,?_,h1.JB⟩
 ·rcases List.mem_append.1 hm with hm|hm
  ·exact h1.row c' m' l' hm
  ·rcases List.mem_cons.1 hm with e|hm
   ·exact a1.row c' m' l' (by simp[e])
   ·exact a2.row c' m' l' (by simp at hm;simp[hm])
 ·rcases List.mem_append.1 hm with hm|hm
  ·exact h1.lt c' m' l' hm
  ·rcases List.mem_cons.1 hm with e|hm
   ·exact a1.lt c' m' l' (by simp[e])
   ·exact a2.lt c' m' l' (by simp at hm;simp[hm])
 ·rcases List.mem_append.1 hm with hm|hm
  ·exact h1.own c' m' l' hm
  ·rcases List.mem_cons.1 hm with e|hm
   ·exact a1.own c' m' l' (by simp[e])
   ·exact a2.own c' m' l' (by simp at hm;simp[hm])
 ·have b1:=a1.nodup;have b2:=a2.nodup;simp only[List.map_append,List.map_cons,List.map_nil]at b1 b2 ⊢;rw[List.nodup_append]at b1 b2 ⊢;refine⟨b1.1,by simp[hne],fun a ha b hb=>?_⟩;rcases List.mem_cons.1 hb with rfl|hb
  ·exact b1.2.2 a ha _ Q7
  ·exact b2.2.2 a ha b hb
theorem KH{o:List Nat}{a b g n m:Int}{l:List Cr}(ha:VP o)(h:QX (.mk o a b g n l) m=true)(hm:m≤6):l=[]∧ ∃an bn gn nn:Nat,a=an∧b=bn∧g=gn∧n=nn∧an≤6∧bn≤6∧gn≤6∧nn≤20:=by
 obtain⟨vn,bn,kn,hsh,hv0,hv3,hk,hn1,hn2,hn0,hvar,hex⟩:=Dc h
 have hne:o≠[101,120]:=by rcases ha with rfl|rfl|rfl|rfl|rfl|rfl|rfl|rfl|rfl|rfl|rfl<;>simp
 rw[QX]at h;simp only[Bool.and_eq_true,decide_eq_true_eq]at h
 have hl:(Ui o).2.1=0:=by rcases ha with rfl|rfl|rfl|rfl|rfl|rfl|rfl|rfl|rfl|rfl|rfl<;>decide
 have hl0:l.length=0:=by have:=h.2.1;omega
 have key: ∀i:Nat,i<3→0≤UY a b g i∧UY a b g i≤6:=fun i hi=>by
  obtain⟨h1,h2⟩:=hvar i hi
  by_cases hv:vn≤i
  ·have:=h1 hv;omega
  ·have:=h2 Qc hne;omega
 have k0:=key 0 Qc;have k1:=key 1 Qc;have k2:=key 2 Qc;simp only[UY]at k0 k1 k2;simp at k0 k1 k2;exact⟨List.eq_nil_of_length_eq_zero hl0,a.toNat,b.toNat,g.toNat,n.toNat,by omega,by omega,by omega,by omega,by omega,by omega,by omega,by omega⟩

theorem eB(hf:Qi st)(x y z:Bool): ∃v st',Jh 160 [.bool x,.bool y,.bool z] st v st'∧v=.bool true∧Qt st st':=by
 refine JA Tryz.func160 Tryz.ntmps160 fun T K=>?_;have M:=Mem.start hf;refine Qb 2 K M ?_;refine⟨congrArg AV.bool ?_,M.qt⟩;clear M K
 first|rfl|(cases x<;>cases y<;>cases z<;>simp_all)

theorem eA:Hq 160 fun x y z=>true:=fun st1 hf x y z=>eB hf x y z

theorem ey(hf:Qi st)(x y z:Bool): ∃v st',Jh 161 [.bool x,.bool y,.bool z] st v st'∧v=.bool (!x||y)∧Qt st st':=by
 refine JA Tryz.func161 Tryz.ntmps161 fun T K=>?_;have M:=Mem.start hf;refine Qb 3 K M fun _ K=>?_;refine oB K (Q0 rfl) rfl fun b9 _ e9 K=>?_;cases b9
 ·replace e9:(x)=true:=by simpa using e9
  refine Qb 3 K M ?_;refine⟨congrArg AV.bool ?_,M.qt⟩;clear M K
  first|rfl|(cases x<;>cases y<;>cases z<;>simp_all)
 replace e9:(x)=false:=by simpa using e9
 refine Qb 3 K M ?_;refine⟨congrArg AV.bool ?_,M.qt⟩;clear M K
 first|rfl|(cases x<;>cases y<;>cases z<;>simp_all)

theorem ew:Hq 161 fun x y z=>(!x||y):=fun st1 hf x y z=>ey hf x y z

theorem eu(hf:Qi st)(x y z:Bool): ∃v st',Jh 162 [.bool x,.bool y,.bool z] st v st'∧v=.bool (!x)∧Qt st st':=by
 refine JA Tryz.func162 Tryz.ntmps162 fun T K=>?_;have M:=Mem.start hf;refine Qb 4 K M ?_;refine⟨congrArg AV.bool ?_,M.qt⟩;clear M K
 first|rfl|(cases x<;>cases y<;>cases z<;>simp_all)

theorem er:Hq 162 fun x y z=>(!x):=fun st1 hf x y z=>eu hf x y z

theorem ep(hf:Qi st)(x y z:Bool): ∃v st',Jh 163 [.bool x,.bool y,.bool z] st v st'∧v=.bool (z==(x||y))∧Qt st st':=by
 refine JA Tryz.func163 Tryz.ntmps163 fun T K=>?_;have M:=Mem.start hf;refine Qb 3 K M fun _ K=>?_;refine oB K (Q0 rfl) rfl fun b9 _ e9 K=>?_;cases b9
 ·refine Qb 2 K M fun _ K=>?_;refine p1 K (Z4 Yv rfl rfl) fun _ K=>?_;refine Qb 1 K M ?_;refine⟨congrArg AV.bool ?_,M.qt⟩;clear M K
  first|rfl|(cases x<;>cases y<;>cases z<;>simp_all)
 refine Qb 2 K M fun _ K=>?_;refine p1 K (Z4 Yv rfl rfl) fun _ K=>?_;refine Qb 1 K M ?_;refine⟨congrArg AV.bool ?_,M.qt⟩;clear M K
 first|rfl|(cases x<;>cases y<;>cases z<;>simp_all)

theorem eo:Hq 163 fun x y z=>(z==(x||y)):=fun st1 hf x y z=>ep hf x y z

theorem en(hf:Qi st)(x y z:Bool): ∃v st',Jh 164 [.bool x,.bool y,.bool z] st v st'∧v=.bool (z==(x&&y))∧Qt st st':=by
 refine JA Tryz.func164 Tryz.ntmps164 fun T K=>?_;have M:=Mem.start hf;refine Qb 3 K M fun _ K=>?_;refine oB K (Q0 rfl) rfl fun b9 _ e9 K=>?_;cases b9
 ·refine Qb 2 K M fun _ K=>?_;refine p1 K (Z4 Yv rfl rfl) fun _ K=>?_;refine Qb 1 K M ?_;refine⟨congrArg AV.bool ?_,M.qt⟩;clear M K
  first|rfl|(cases x<;>cases y<;>cases z<;>simp_all)
 refine Qb 2 K M fun _ K=>?_;refine p1 K (Z4 Yv rfl rfl) fun _ K=>?_;refine Qb 1 K M ?_;refine⟨congrArg AV.bool ?_,M.qt⟩;clear M K
 first|rfl|(cases x<;>cases y<;>cases z<;>simp_all)

theorem ei:Hq 164 fun x y z=>(z==(x&&y)):=fun st1 hf x y z=>en hf x y z

theorem eh(hf:Qi st)(x y z:Bool): ∃v st',Jh 165 [.bool x,.bool y,.bool z] st v st'∧v=.bool (z==(x&& !y))∧Qt st st':=by
 refine JA Tryz.func165 Tryz.ntmps165 fun T K=>?_;have M:=Mem.start hf;refine Qb 3 K M fun _ K=>?_;refine oB K (Q0 rfl) rfl fun b9 _ e9 K=>?_;cases b9
 ·refine Qb 3 K M fun _ K=>?_;refine p1 K (Z4 Yv rfl rfl) fun _ K=>?_;refine Qb 1 K M ?_;refine⟨congrArg AV.bool ?_,M.qt⟩;clear M K
  first|rfl|(cases x<;>cases y<;>cases z<;>simp_all)
 refine Qb 3 K M fun _ K=>?_;refine p1 K (Z4 Yv rfl rfl) fun _ K=>?_;refine Qb 1 K M ?_;refine⟨congrArg AV.bool ?_,M.qt⟩;clear M K
 first|rfl|(cases x<;>cases y<;>cases z<;>simp_all)

theorem ef:Hq 165 fun x y z=>(z==(x&& !y)):=fun st1 hf x y z=>eh hf x y z

theorem WC(hf:Qi st){g:FuncId}{p:Bool→Bool→Bool→Bool}(hr:Qy st.h.get c1 0 [.fn g [] []])(hg:Hq g p)(s:Int)(x y z:Bool): ∃v st',Jh 174 [iZ s,.bool x,.bool y,.bool z,.ptr c1 0 0] st v st'∧v=iZ (if p x y z=true then 0 else-1)∧Qt st st':=by
 refine JA Tryz.func174 Tryz.ntmps174 fun T K=>?_;have M:=Mem.start hf;refine Qb 1 K M fun _ K=>?_;refine p1 K (Qf rfl (Qx (M.JH Q7 hr.Jd) (Qd Xr rfl))) fun _ K=>?_;refine Qb 3 K M fun _ K=>?_;obtain⟨v14,st14,ev14,rfl,q14⟩:=hg _ M.fresh x y z;refine p1 K (ZW rfl rfl ev14) fun _ K=>?_;replace M:=M.quiet q14;refine Qb 0 K M fun _ K=>?_;refine Qp (K.QG rfl) (fun h14=>?_) (fun h14=>?_)
 ·have hb14:=h14;refine Qb 1 K M ?_;refine⟨congrArg (AV.int .i64) ?_,M.qt⟩
  first|(rw[if_pos (by assumption)];done)|(rw[if_neg (by simp_all)];done)
 have hb14:=h14;refine Qb 1 K M ?_;refine⟨congrArg (AV.int .i64) ?_,M.qt⟩
 first|(rw[if_pos (by assumption)];done)|(rw[if_neg (by simp_all)];done)

theorem AT(hf:Qi st)(g:FuncId): ∃v st',Jh 159 [(.fn g [] [])] st v st'∧ ∃c1,v=.agg [.fn 174 [] [.ptr c1 0 0],iZ 0,iZ 1]∧Qy st'.h.get c1 0 [.fn g [] []]∧st.n≤c1∧Qt st st':=by
 refine JA Tryz.func159 Tryz.ntmps159 fun T K=>?_;have M:=Mem.start hf;refine au 2 K M ?_;intro c1 c2 _ _ K _ M;refine p1 K (X1 rfl rfl) fun _ K=>?_;refine au 2 K M ?_;intro _ _ K _ M;refine Qb 0 K M ?_;exact⟨c1,rfl,M.Yb (k:=1) rfl,M.jZ (k:=1) rfl,M.qt⟩

theorem Da(hf:Qi st)(n s:Nat)(y:Bool)(z:Bool)(hs:s<2): ∃v st',Jh 166 [iN s,.bool true,.bool y,.bool z] st v st'∧v=iZ (Jq [115,105,110,103] n s true y z)∧Qt st st':=by
 refine JA Tryz.func166 Tryz.ntmps166 fun T K=>?_;have M:=Mem.start hf;refine Qb 8 K M fun _ K=>?_;refine Jy K rfl (fun h13=>?_) fun h13=>?_
 ·refine Qb 1 K M ?_;refine⟨congrArg (AV.int .i64) ?_,M.qt⟩;clear M K;rw[FP]
  first|(simp_all;done)|(simp_all;omega)|(repeat' split)<;>first|(simp_all;done)|(simp_all;omega)|omega
 refine Qb 1 K M ?_;refine⟨congrArg (AV.int .i64) ?_,M.qt⟩;clear M K;rw[FP]
 first|(simp_all;done)|(simp_all;omega)|(repeat' split)<;>first|(simp_all;done)|(simp_all;omega)|omega

theorem Db(hf:Qi st)(n s:Nat)(y:Bool)(z:Bool)(hs:s<2): ∃v st',Jh 166 [iN s,.bool false,.bool y,.bool z] st v st'∧v=iZ (Jq [115,105,110,103] n s false y z)∧Qt st st':=by
 refine JA Tryz.func166 Tryz.ntmps166 fun T K=>?_;have M:=Mem.start hf;refine Qb 7 K M ?_;refine⟨congrArg (AV.int .i64) ?_,M.qt⟩;clear M K;rw[FP]
 first|(simp_all;done)|(simp_all;omega)|(repeat' split)<;>first|(simp_all;done)|(simp_all;omega)|omega

theorem Mn(hf:Qi st)(n s:Nat)(x y z:Bool)(hs:s<2): ∃v st',Jh 166 [.int .i64 (s:Nat),.bool x,.bool y,.bool z] st v st'∧v=.int .i64 (Jq [115,105,110,103] n s x y z)∧Qt st st':=by
 cases x
 ·exact Db hf n s y z hs
 ·exact Da hf n s y z hs

theorem RT(hf:Qi st)(n s:Nat)(y:Bool)(z:Bool)(hs:s<2): ∃v st',Jh 167 [iN s,.bool true,.bool y,.bool z] st v st'∧v=iZ (Jq [102,108,97,103] n s true y z)∧Qt st st':=by
 refine JA Tryz.func167 Tryz.ntmps167 fun T K=>?_;have M:=Mem.start hf;refine Qb 3 K M fun _ K=>?_;refine Uj K rfl (fun _ e11 K=>?_) fun _ e11 K=>?_
 ·refine Qb 4 K M ?_;refine⟨congrArg (AV.int .i64) ?_,M.qt⟩;clear M K;rw[Eh]
  first|(simp_all;done)|(simp_all;omega)|(repeat' split)<;>first|(simp_all;done)|(simp_all;omega)|omega
 refine Qb 4 K M ?_;refine⟨congrArg (AV.int .i64) ?_,M.qt⟩;clear M K;rw[Eh]
 first|(simp_all;done)|(simp_all;omega)|(repeat' split)<;>first|(simp_all;done)|(simp_all;omega)|omega

theorem RU(hf:Qi st)(n s:Nat)(y:Bool)(z:Bool)(hs:s<2): ∃v st',Jh 167 [iN s,.bool false,.bool y,.bool z] st v st'∧v=iZ (Jq [102,108,97,103] n s false y z)∧Qt st st':=by
 refine JA Tryz.func167 Tryz.ntmps167 fun T K=>?_;have M:=Mem.start hf;refine Qb 3 K M fun _ K=>?_;refine Uj K rfl (fun _ e11 K=>?_) fun _ e11 K=>?_
 ·refine Qb 4 K M ?_;refine⟨congrArg (AV.int .i64) ?_,M.qt⟩;clear M K;rw[Eh]
  first|(simp_all;done)|(simp_all;omega)|(repeat' split)<;>first|(simp_all;done)|(simp_all;omega)|omega
 refine Qb 4 K M ?_;refine⟨congrArg (AV.int .i64) ?_,M.qt⟩;clear M K;rw[Eh]
 first|(simp_all;done)|(simp_all;omega)|(repeat' split)<;>first|(simp_all;done)|(simp_all;omega)|omega

theorem yr(hf:Qi st)(n s:Nat)(x y z:Bool)(hs:s<2): ∃v st',Jh 167 [.int .i64 (s:Nat),.bool x,.bool y,.bool z] st v st'∧v=.int .i64 (Jq [102,108,97,103] n s x y z)∧Qt st st':=by
 cases x
 ·exact RU hf n s y z hs
 ·exact RT hf n s y z hs

theorem DH(hf:Qi st)(n s:Nat)(z:Bool)(hs:s<3): ∃v st',Jh 168 [iN s,.bool true,.bool true,.bool z] st v st'∧v=iZ (Jq [108,101,115,115] n s true true z)∧Qt st st':=by
 refine JA Tryz.func168 Tryz.ntmps168 fun T K=>?_;have M:=Mem.start hf;refine Qb 11 K M fun _ K=>?_;refine Uj K rfl (fun _ e20 K=>?_) fun _ e20 K=>?_
 ·refine Qb 10 K M fun _ K=>?_;refine Uj K rfl (fun _ e30 K=>?_) fun _ e30 K=>?_
  ·refine Qb 9 K M ?_;refine⟨congrArg (AV.int .i64) ?_,M.qt⟩;clear M K;rw[Ym]
   first|(simp_all;done)|(simp_all;omega)|(repeat' split)<;>first|(simp_all;done)|(simp_all;omega)|omega
  refine Qb 9 K M ?_;refine⟨congrArg (AV.int .i64) ?_,M.qt⟩;clear M K;rw[Ym]
  first|(simp_all;done)|(simp_all;omega)|(repeat' split)<;>first|(simp_all;done)|(simp_all;omega)|omega
 refine Qb 10 K M fun _ K=>?_;refine Uj K rfl (fun _ e30 K=>?_) fun _ e30 K=>?_
 ·refine Qb 9 K M ?_;refine⟨congrArg (AV.int .i64) ?_,M.qt⟩;clear M K;rw[Ym]
  first|(simp_all;done)|(simp_all;omega)|(repeat' split)<;>first|(simp_all;done)|(simp_all;omega)|omega
 exact XP

theorem DI(hf:Qi st)(n s:Nat)(z:Bool)(hs:s<3): ∃v st',Jh 168 [iN s,.bool true,.bool false,.bool z] st v st'∧v=iZ (Jq [108,101,115,115] n s true false z)∧Qt st st':=by
 refine JA Tryz.func168 Tryz.ntmps168 fun T K=>?_;have M:=Mem.start hf;refine Qb 11 K M fun _ K=>?_;refine Uj K rfl (fun _ e20 K=>?_) fun _ e20 K=>?_
 ·refine Qb 10 K M fun _ K=>?_;refine Uj K rfl (fun _ e30 K=>?_) fun _ e30 K=>?_
  ·refine Qb 9 K M ?_;refine⟨congrArg (AV.int .i64) ?_,M.qt⟩;clear M K;rw[Ym]
   first|(simp_all;done)|(simp_all;omega)|(repeat' split)<;>first|(simp_all;done)|(simp_all;omega)|omega
  refine Qb 9 K M ?_;refine⟨congrArg (AV.int .i64) ?_,M.qt⟩;clear M K;rw[Ym]
  first|(simp_all;done)|(simp_all;omega)|(repeat' split)<;>first|(simp_all;done)|(simp_all;omega)|omega
 refine Qb 9 K M ?_;refine⟨congrArg (AV.int .i64) ?_,M.qt⟩;clear M K;rw[Ym]
 first|(simp_all;done)|(simp_all;omega)|(repeat' split)<;>first|(simp_all;done)|(simp_all;omega)|omega

theorem DJ(hf:Qi st)(n s:Nat)(z:Bool)(hs:s<3): ∃v st',Jh 168 [iN s,.bool false,.bool true,.bool z] st v st'∧v=iZ (Jq [108,101,115,115] n s false true z)∧Qt st st':=by
 refine JA Tryz.func168 Tryz.ntmps168 fun T K=>?_;have M:=Mem.start hf;refine Qb 11 K M fun _ K=>?_;refine Uj K rfl (fun _ e20 K=>?_) fun _ e20 K=>?_
 ·refine Qb 10 K M fun _ K=>?_;refine Uj K rfl (fun _ e30 K=>?_) fun _ e30 K=>?_
  ·refine Qb 9 K M ?_;refine⟨congrArg (AV.int .i64) ?_,M.qt⟩;clear M K;rw[Ym]
   first|(simp_all;done)|(simp_all;omega)|(repeat' split)<;>first|(simp_all;done)|(simp_all;omega)|omega
  refine Qb 9 K M ?_;refine⟨congrArg (AV.int .i64) ?_,M.qt⟩;clear M K;rw[Ym]
  first|(simp_all;done)|(simp_all;omega)|(repeat' split)<;>first|(simp_all;done)|(simp_all;omega)|omega
 refine Qb 10 K M fun _ K=>?_;refine Uj K rfl (fun _ e30 K=>?_) fun _ e30 K=>?_
 ·refine Qb 9 K M ?_;refine⟨congrArg (AV.int .i64) ?_,M.qt⟩;clear M K;rw[Ym]
  first|(simp_all;done)|(simp_all;omega)|(repeat' split)<;>first|(simp_all;done)|(simp_all;omega)|omega
 exact XP

theorem DK(hf:Qi st)(n s:Nat)(z:Bool)(hs:s<3): ∃v st',Jh 168 [iN s,.bool false,.bool false,.bool z] st v st'∧v=iZ (Jq [108,101,115,115] n s false false z)∧Qt st st':=by
 refine JA Tryz.func168 Tryz.ntmps168 fun T K=>?_;have M:=Mem.start hf;refine Qb 11 K M ?_;refine⟨congrArg (AV.int .i64) ?_,M.qt⟩;clear M K;rw[Ym]
 first|(simp_all;done)|(simp_all;omega)|(repeat' split)<;>first|(simp_all;done)|(simp_all;omega)|omega

theorem uR(hf:Qi st)(n s:Nat)(x y z:Bool)(hs:s<3): ∃v st',Jh 168 [.int .i64 (s:Nat),.bool x,.bool y,.bool z] st v st'∧v=.int .i64 (Jq [108,101,115,115] n s x y z)∧Qt st st':=by
 cases x
 ·cases y
  ·exact DK hf n s z hs
  ·exact DJ hf n s z hs
 ·cases y
  ·exact DI hf n s z hs
  ·exact DH hf n s z hs

theorem Of(hf:Qi st)(n s:Nat)(z:Bool)(hs:s<n+2)(hn:n≤20)(h1:Qy st.h.get c1 0 [iN n])(h3:Qy st.h.get c3 0 [iZ (n+1:Nat)]): ∃v st',Jh 175 [iN s,.bool true,.bool true,.bool z,.ptr c1 0 0,.ptr c3 0 0] st v st'∧v=iZ (Jq [112,108,117,115] n s true true z)∧Qt st st':=by
 refine JA Tryz.func175 Tryz.ntmps175 fun T K=>?_;have M:=Mem.start hf;refine Qb 3 K M fun _ K=>?_;refine Uj K rfl (fun _ e14 K=>?_) fun _ e14 K=>?_
 ·refine Qb 12 K M fun _ K=>?_;refine Uj K rfl (fun _ e26 K=>?_) fun _ e26 K=>?_
  ·refine Qb 10 K M fun _ K=>?_;refine p1 K (Qf rfl (Qx (M.JH Q7 h3.Jd) (Qd Qn rfl))) fun _ K=>?_;refine Qb 1 K M fun _ K=>?_;refine Uj K rfl (fun _ e37 K=>?_) fun _ e37 K=>?_
   ·refine Qb 11 K M fun _ K=>?_;refine Uj K rfl (fun _ e49 K=>?_) fun _ e49 K=>?_
    ·exact XP
    refine Qb 1 K M fun _ K=>?_;refine pg K rfl rfl (Qf rfl (Qx (M.JH Q7 h3.Jd) (Qd Qn rfl))) fun _ K=>?_;refine Qb 2 K M fun _ K=>?_;refine Uj K rfl (fun _ e54 K=>?_) fun _ e54 K=>?_
    ·exact XP
    refine Qb 13 K M ?_;refine⟨congrArg (AV.int .i64) ?_,M.qt⟩;clear M K;rw[JU]
    first|(simp_all;done)|(simp_all;omega)|(repeat' split)<;>first|(simp_all;done)|(simp_all;omega)|omega
   refine Qb 11 K M fun _ K=>?_;refine Uj K rfl (fun _ e49 K=>?_) fun _ e49 K=>?_
   ·exact XP
   refine Qb 1 K M fun _ K=>?_;refine pg K rfl rfl (Qf rfl (Qx (M.JH Q7 h3.Jd) (Qd Qn rfl))) fun _ K=>?_;refine Qb 2 K M fun _ K=>?_;refine Uj K rfl (fun _ e54 K=>?_) fun _ e54 K=>?_
   ·refine Qb 13 K M ?_;refine⟨congrArg (AV.int .i64) ?_,M.qt⟩;clear M K;rw[JU]
    first|(simp_all;done)|(simp_all;omega)|(repeat' split)<;>first|(simp_all;done)|(simp_all;omega)|omega
   exact XP
  exact XP
 refine Qb 4 K M fun _ K=>?_;refine pg K rfl rfl (Qf rfl (Qx (M.JH Q7 h1.Jd) (Qd Qn rfl))) fun _ K=>?_;refine Qb 1 K M fun _ K=>?_;refine pg K rfl rfl (Z4 Yv rfl rfl) fun _ K=>?_;refine Qb 2 K M fun _ K=>?_;refine Qp (K.QG rfl) (fun h11=>?_) (fun h11=>?_)
 ·have hb11:=h11;refine Qb 1 K M ?_;refine⟨congrArg (AV.int .i64) ?_,M.qt⟩;clear M K;rw[JU]
  first|(simp_all;done)|(simp_all;omega)|(repeat' split)<;>first|(simp_all;done)|(simp_all;omega)|omega
 have hb11:=h11;refine Qb 2 K M fun _ K=>?_;refine Uj K rfl (fun _ e26 K=>?_) fun _ e26 K=>?_
 ·exact XP
 refine Qb 10 K M fun _ K=>?_;refine p1 K (Qf rfl (Qx (M.JH Q7 h3.Jd) (Qd Qn rfl))) fun _ K=>?_;refine Qb 1 K M fun _ K=>?_;refine Uj K rfl (fun _ e37 K=>?_) fun _ e37 K=>?_
 ·refine Qb 11 K M fun _ K=>?_;refine Uj K rfl (fun _ e49 K=>?_) fun _ e49 K=>?_
  ·refine Qb 18 K M ?_;refine⟨congrArg (AV.int .i64) ?_,M.qt⟩;clear M K;rw[JU]
   first|(simp_all;done)|(simp_all;omega)|(repeat' split)<;>first|(simp_all;done)|(simp_all;omega)|omega
  exact XP
 exact XP

theorem Og(hf:Qi st)(n s:Nat)(z:Bool)(hs:s<n+2)(hn:n≤20)(h1:Qy st.h.get c1 0 [iN n])(h3:Qy st.h.get c3 0 [iZ (n+1:Nat)]): ∃v st',Jh 175 [iN s,.bool true,.bool false,.bool z,.ptr c1 0 0,.ptr c3 0 0] st v st'∧v=iZ (Jq [112,108,117,115] n s true false z)∧Qt st st':=by
 refine JA Tryz.func175 Tryz.ntmps175 fun T K=>?_;have M:=Mem.start hf;refine Qb 3 K M fun _ K=>?_;refine Uj K rfl (fun _ e14 K=>?_) fun _ e14 K=>?_
 ·refine Qb 12 K M fun _ K=>?_;refine Uj K rfl (fun _ e26 K=>?_) fun _ e26 K=>?_
  ·refine Qb 10 K M fun _ K=>?_;refine p1 K (Qf rfl (Qx (M.JH Q7 h3.Jd) (Qd Qn rfl))) fun _ K=>?_;refine Qb 1 K M fun _ K=>?_;refine Uj K rfl (fun _ e37 K=>?_) fun _ e37 K=>?_
   ·refine Qb 11 K M fun _ K=>?_;refine Uj K rfl (fun _ e49 K=>?_) fun _ e49 K=>?_
    ·exact XP
    refine Qb 1 K M fun _ K=>?_;refine pg K rfl rfl (Qf rfl (Qx (M.JH Q7 h3.Jd) (Qd Qn rfl))) fun _ K=>?_;refine Qb 2 K M fun _ K=>?_;refine Uj K rfl (fun _ e54 K=>?_) fun _ e54 K=>?_
    ·exact XP
    refine Qb 13 K M ?_;refine⟨congrArg (AV.int .i64) ?_,M.qt⟩;clear M K;rw[JU]
    first|(simp_all;done)|(simp_all;omega)|(repeat' split)<;>first|(simp_all;done)|(simp_all;omega)|omega
   refine Qb 11 K M fun _ K=>?_;refine Uj K rfl (fun _ e49 K=>?_) fun _ e49 K=>?_
   ·exact XP
   refine Qb 1 K M fun _ K=>?_;refine pg K rfl rfl (Qf rfl (Qx (M.JH Q7 h3.Jd) (Qd Qn rfl))) fun _ K=>?_;refine Qb 2 K M fun _ K=>?_;refine Uj K rfl (fun _ e54 K=>?_) fun _ e54 K=>?_
   ·refine Qb 13 K M ?_;refine⟨congrArg (AV.int .i64) ?_,M.qt⟩;clear M K;rw[JU]
    first|(simp_all;done)|(simp_all;omega)|(repeat' split)<;>first|(simp_all;done)|(simp_all;omega)|omega
   exact XP
  exact XP
 refine Qb 4 K M fun _ K=>?_;refine pg K rfl rfl (Qf rfl (Qx (M.JH Q7 h1.Jd) (Qd Qn rfl))) fun _ K=>?_;refine Qb 1 K M fun _ K=>?_;refine pg K rfl rfl (Z4 Yv rfl rfl) fun _ K=>?_;refine Qb 2 K M fun _ K=>?_;refine Qp (K.QG rfl) (fun h11=>?_) (fun h11=>?_)
 ·have hb11:=h11;refine Qb 1 K M ?_;refine⟨congrArg (AV.int .i64) ?_,M.qt⟩;clear M K;rw[JU]
  first|(simp_all;done)|(simp_all;omega)|(repeat' split)<;>first|(simp_all;done)|(simp_all;omega)|omega
 have hb11:=h11;refine Qb 2 K M fun _ K=>?_;refine Uj K rfl (fun _ e26 K=>?_) fun _ e26 K=>?_
 ·exact XP
 refine Qb 10 K M fun _ K=>?_;refine p1 K (Qf rfl (Qx (M.JH Q7 h3.Jd) (Qd Qn rfl))) fun _ K=>?_;refine Qb 1 K M fun _ K=>?_;refine Uj K rfl (fun _ e37 K=>?_) fun _ e37 K=>?_
 ·refine Qb 11 K M fun _ K=>?_;refine Uj K rfl (fun _ e49 K=>?_) fun _ e49 K=>?_
  ·refine Qb 18 K M ?_;refine⟨congrArg (AV.int .i64) ?_,M.qt⟩;clear M K;rw[JU]
   first|(simp_all;done)|(simp_all;omega)|(repeat' split)<;>first|(simp_all;done)|(simp_all;omega)|omega
  exact XP
 exact XP

theorem Oh(hf:Qi st)(n s:Nat)(z:Bool)(hs:s<n+2)(hn:n≤20)(h1:Qy st.h.get c1 0 [iN n])(h3:Qy st.h.get c3 0 [iZ (n+1:Nat)]): ∃v st',Jh 175 [iN s,.bool false,.bool true,.bool z,.ptr c1 0 0,.ptr c3 0 0] st v st'∧v=iZ (Jq [112,108,117,115] n s false true z)∧Qt st st':=by
 refine JA Tryz.func175 Tryz.ntmps175 fun T K=>?_;have M:=Mem.start hf;refine Qb 3 K M fun _ K=>?_;refine Uj K rfl (fun _ e14 K=>?_) fun _ e14 K=>?_
 ·refine Qb 12 K M fun _ K=>?_;refine Uj K rfl (fun _ e26 K=>?_) fun _ e26 K=>?_
  ·refine Qb 10 K M fun _ K=>?_;refine p1 K (Qf rfl (Qx (M.JH Q7 h3.Jd) (Qd Qn rfl))) fun _ K=>?_;refine Qb 1 K M fun _ K=>?_;refine Uj K rfl (fun _ e37 K=>?_) fun _ e37 K=>?_
   ·refine Qb 11 K M fun _ K=>?_;refine Uj K rfl (fun _ e49 K=>?_) fun _ e49 K=>?_
    ·exact XP
    refine Qb 1 K M fun _ K=>?_;refine pg K rfl rfl (Qf rfl (Qx (M.JH Q7 h3.Jd) (Qd Qn rfl))) fun _ K=>?_;refine Qb 2 K M fun _ K=>?_;refine Uj K rfl (fun _ e54 K=>?_) fun _ e54 K=>?_
    ·exact XP
    refine Qb 6 K M fun _ K=>?_;refine pg K rfl rfl (Qf rfl (Qx (M.JH Q7 h1.Jd) (Qd Qn rfl))) fun _ K=>?_;refine Qb 1 K M fun _ K=>?_;refine pg K rfl rfl (Z4 Yv rfl rfl) fun _ K=>?_;refine Qb 2 K M fun _ K=>?_;refine Qp (K.QG rfl) (fun h46=>?_) (fun h46=>?_)
    ·have hb46:=h46;refine Qb 3 K M ?_;refine⟨congrArg (AV.int .i64) ?_,M.qt⟩;clear M K;rw[JU]
     first|(simp_all;done)|(simp_all;omega)|(repeat' split)<;>first|(simp_all;done)|(simp_all;omega)|omega
    have hb46:=h46;refine Qb 1 K M ?_;refine⟨congrArg (AV.int .i64) ?_,M.qt⟩;clear M K;rw[JU]
    first|(simp_all;done)|(simp_all;omega)|(repeat' split)<;>first|(simp_all;done)|(simp_all;omega)|omega
   refine Qb 11 K M fun _ K=>?_;refine Uj K rfl (fun _ e49 K=>?_) fun _ e49 K=>?_
   ·exact XP
   refine Qb 1 K M fun _ K=>?_;refine pg K rfl rfl (Qf rfl (Qx (M.JH Q7 h3.Jd) (Qd Qn rfl))) fun _ K=>?_;refine Qb 2 K M fun _ K=>?_;refine Uj K rfl (fun _ e54 K=>?_) fun _ e54 K=>?_
   ·refine Qb 13 K M ?_;refine⟨congrArg (AV.int .i64) ?_,M.qt⟩;clear M K;rw[JU]
    first|(simp_all;done)|(simp_all;omega)|(repeat' split)<;>first|(simp_all;done)|(simp_all;omega)|omega
   exact XP
  exact XP
 refine Qb 12 K M fun _ K=>?_;refine Uj K rfl (fun _ e26 K=>?_) fun _ e26 K=>?_
 ·exact XP
 refine Qb 10 K M fun _ K=>?_;refine p1 K (Qf rfl (Qx (M.JH Q7 h3.Jd) (Qd Qn rfl))) fun _ K=>?_;refine Qb 1 K M fun _ K=>?_;refine Uj K rfl (fun _ e37 K=>?_) fun _ e37 K=>?_
 ·refine Qb 11 K M fun _ K=>?_;refine Uj K rfl (fun _ e49 K=>?_) fun _ e49 K=>?_
  ·refine Qb 18 K M ?_;refine⟨congrArg (AV.int .i64) ?_,M.qt⟩;clear M K;rw[JU]
   first|(simp_all;done)|(simp_all;omega)|(repeat' split)<;>first|(simp_all;done)|(simp_all;omega)|omega
  exact XP
 exact XP

theorem Oi(hf:Qi st)(n s:Nat)(z:Bool)(hs:s<n+2)(hn:n≤20)(h1:Qy st.h.get c1 0 [iN n])(h3:Qy st.h.get c3 0 [iZ (n+1:Nat)]): ∃v st',Jh 175 [iN s,.bool false,.bool false,.bool z,.ptr c1 0 0,.ptr c3 0 0] st v st'∧v=iZ (Jq [112,108,117,115] n s false false z)∧Qt st st':=by
 refine JA Tryz.func175 Tryz.ntmps175 fun T K=>?_;have M:=Mem.start hf;refine Qb 3 K M fun _ K=>?_;refine Uj K rfl (fun _ e14 K=>?_) fun _ e14 K=>?_
 ·refine Qb 12 K M fun _ K=>?_;refine Uj K rfl (fun _ e26 K=>?_) fun _ e26 K=>?_
  ·refine Qb 10 K M fun _ K=>?_;refine p1 K (Qf rfl (Qx (M.JH Q7 h3.Jd) (Qd Qn rfl))) fun _ K=>?_;refine Qb 1 K M fun _ K=>?_;refine Uj K rfl (fun _ e37 K=>?_) fun _ e37 K=>?_
   ·refine Qb 11 K M fun _ K=>?_;refine Uj K rfl (fun _ e49 K=>?_) fun _ e49 K=>?_
    ·exact XP
    refine Qb 1 K M fun _ K=>?_;refine pg K rfl rfl (Qf rfl (Qx (M.JH Q7 h3.Jd) (Qd Qn rfl))) fun _ K=>?_;refine Qb 2 K M fun _ K=>?_;refine Uj K rfl (fun _ e54 K=>?_) fun _ e54 K=>?_
    ·exact XP
    refine Qb 6 K M fun _ K=>?_;refine pg K rfl rfl (Qf rfl (Qx (M.JH Q7 h1.Jd) (Qd Qn rfl))) fun _ K=>?_;refine Qb 1 K M fun _ K=>?_;refine pg K rfl rfl (Z4 Yv rfl rfl) fun _ K=>?_;refine Qb 2 K M fun _ K=>?_;refine Qp (K.QG rfl) (fun h46=>?_) (fun h46=>?_)
    ·have hb46:=h46;refine Qb 3 K M ?_;refine⟨congrArg (AV.int .i64) ?_,M.qt⟩;clear M K;rw[JU]
     first|(simp_all;done)|(simp_all;omega)|(repeat' split)<;>first|(simp_all;done)|(simp_all;omega)|omega
    have hb46:=h46;refine Qb 1 K M ?_;refine⟨congrArg (AV.int .i64) ?_,M.qt⟩;clear M K;rw[JU]
    first|(simp_all;done)|(simp_all;omega)|(repeat' split)<;>first|(simp_all;done)|(simp_all;omega)|omega
   refine Qb 11 K M ?_;refine⟨congrArg (AV.int .i64) ?_,M.qt⟩;clear M K;rw[JU]
   first|(simp_all;done)|(simp_all;omega)|(repeat' split)<;>first|(simp_all;done)|(simp_all;omega)|omega
  exact XP
 refine Qb 12 K M fun _ K=>?_;refine Uj K rfl (fun _ e26 K=>?_) fun _ e26 K=>?_
 ·exact XP
 refine Qb 12 K M ?_;refine⟨congrArg (AV.int .i64) ?_,M.qt⟩;clear M K;rw[JU]
 first|(simp_all;done)|(simp_all;omega)|(repeat' split)<;>first|(simp_all;done)|(simp_all;omega)|omega

theorem Pn(hf:Qi st)(n s:Nat)(x y z:Bool)(hs:s<n+2)(hn:n≤20)(h1:Qy st.h.get c1 0 [.int .i64 (n:Nat)])(h3:Qy st.h.get c3 0 [.int .i64 (n+1:Nat)]): ∃v st',Jh 175 [.int .i64 (s:Nat),.bool x,.bool y,.bool z,.ptr c1 0 0,.ptr c3 0 0] st v st'∧v=.int .i64 (Jq [112,108,117,115] n s x y z)∧Qt st st':=by
 cases x
 ·cases y
  ·exact Oi hf n s z hs hn h1 h3
  ·exact Oh hf n s z hs hn h1 h3
 ·cases y
  ·exact Og hf n s z hs hn h1 h3
  ·exact Of hf n s z hs hn h1 h3

theorem OF(hf:Qi st)(n s:Nat)(z:Bool)(hs:s<n+2)(hn:n≤20)(h1:Qy st.h.get c1 0 [iN n])(h3:Qy st.h.get c3 0 [iZ (n+1:Nat)]): ∃v st',Jh 176 [iN s,.bool true,.bool true,.bool z,.ptr c3 0 0,.ptr c1 0 0] st v st'∧v=iZ (Jq [110,117,109] n s true true z)∧Qt st st':=by
 refine JA Tryz.func176 Tryz.ntmps176 fun T K=>?_;have M:=Mem.start hf;refine Qb 2 K M fun _ K=>?_;refine p1 K (Qf rfl (Qx (M.JH Q7 h3.Jd) (Qd Qn rfl))) fun _ K=>?_;refine Qb 1 K M fun _ K=>?_;refine Uj K rfl (fun _ e15 K=>?_) fun _ e15 K=>?_
 ·refine Qb 9 K M fun _ K=>?_;refine p1 K (Qf rfl (Qx (M.JH Q7 h3.Jd) (Qd Qn rfl))) fun _ K=>?_;refine Qb 1 K M fun _ K=>?_;refine Uj K rfl (fun _ e28 K=>?_) fun _ e28 K=>?_
  ·exact XP
  refine Qb 6 K M ?_;refine⟨congrArg (AV.int .i64) ?_,M.qt⟩;clear M K;rw[Yd]
  first|(simp_all;done)|(simp_all;omega)|(repeat' split)<;>first|(simp_all;done)|(simp_all;omega)|omega
 refine Qb 2 K M fun _ K=>?_;refine pg K rfl rfl (Qf rfl (Qx (M.JH Q7 h1.Jd) (Qd Qn rfl))) fun _ K=>?_;refine Qb 1 K M fun _ K=>?_;refine pg K rfl rfl (Z4 Yv rfl rfl) fun _ K=>?_;refine Qb 2 K M fun _ K=>?_;refine Qp (K.QG rfl) (fun h11=>?_) (fun h11=>?_)
 ·have hb11:=h11;refine Qb 3 K M ?_;refine⟨congrArg (AV.int .i64) ?_,M.qt⟩;clear M K;rw[Yd]
  first|(simp_all;done)|(simp_all;omega)|(repeat' split)<;>first|(simp_all;done)|(simp_all;omega)|omega
 have hb11:=h11;refine Qb 1 K M fun _ K=>?_;refine p1 K (Qf rfl (Qx (M.JH Q7 h3.Jd) (Qd Qn rfl))) fun _ K=>?_;refine Qb 1 K M fun _ K=>?_;refine Uj K rfl (fun _ e28 K=>?_) fun _ e28 K=>?_
 ·refine Qb 6 K M ?_;refine⟨congrArg (AV.int .i64) ?_,M.qt⟩;clear M K;rw[Yd]
  first|(simp_all;done)|(simp_all;omega)|(repeat' split)<;>first|(simp_all;done)|(simp_all;omega)|omega
 exact XP

theorem OG(hf:Qi st)(n s:Nat)(z:Bool)(hs:s<n+2)(hn:n≤20)(h1:Qy st.h.get c1 0 [iN n])(h3:Qy st.h.get c3 0 [iZ (n+1:Nat)]): ∃v st',Jh 176 [iN s,.bool true,.bool false,.bool z,.ptr c3 0 0,.ptr c1 0 0] st v st'∧v=iZ (Jq [110,117,109] n s true false z)∧Qt st st':=by
 refine JA Tryz.func176 Tryz.ntmps176 fun T K=>?_;have M:=Mem.start hf;refine Qb 2 K M fun _ K=>?_;refine p1 K (Qf rfl (Qx (M.JH Q7 h3.Jd) (Qd Qn rfl))) fun _ K=>?_;refine Qb 1 K M fun _ K=>?_;refine Uj K rfl (fun _ e15 K=>?_) fun _ e15 K=>?_
 ·refine Qb 9 K M fun _ K=>?_;refine p1 K (Qf rfl (Qx (M.JH Q7 h3.Jd) (Qd Qn rfl))) fun _ K=>?_;refine Qb 1 K M fun _ K=>?_;refine Uj K rfl (fun _ e28 K=>?_) fun _ e28 K=>?_
  ·exact XP
  refine Qb 6 K M ?_;refine⟨congrArg (AV.int .i64) ?_,M.qt⟩;clear M K;rw[Yd]
  first|(simp_all;done)|(simp_all;omega)|(repeat' split)<;>first|(simp_all;done)|(simp_all;omega)|omega
 refine Qb 2 K M fun _ K=>?_;refine pg K rfl rfl (Qf rfl (Qx (M.JH Q7 h1.Jd) (Qd Qn rfl))) fun _ K=>?_;refine Qb 1 K M fun _ K=>?_;refine pg K rfl rfl (Z4 Yv rfl rfl) fun _ K=>?_;refine Qb 2 K M fun _ K=>?_;refine Qp (K.QG rfl) (fun h11=>?_) (fun h11=>?_)
 ·have hb11:=h11;refine Qb 3 K M ?_;refine⟨congrArg (AV.int .i64) ?_,M.qt⟩;clear M K;rw[Yd]
  first|(simp_all;done)|(simp_all;omega)|(repeat' split)<;>first|(simp_all;done)|(simp_all;omega)|omega
 have hb11:=h11;refine Qb 1 K M fun _ K=>?_;refine p1 K (Qf rfl (Qx (M.JH Q7 h3.Jd) (Qd Qn rfl))) fun _ K=>?_;refine Qb 1 K M fun _ K=>?_;refine Uj K rfl (fun _ e28 K=>?_) fun _ e28 K=>?_
 ·refine Qb 6 K M ?_;refine⟨congrArg (AV.int .i64) ?_,M.qt⟩;clear M K;rw[Yd]
  first|(simp_all;done)|(simp_all;omega)|(repeat' split)<;>first|(simp_all;done)|(simp_all;omega)|omega
 exact XP

theorem OH(hf:Qi st)(n s:Nat)(z:Bool)(hs:s<n+2)(hn:n≤20)(h1:Qy st.h.get c1 0 [iN n])(h3:Qy st.h.get c3 0 [iZ (n+1:Nat)]): ∃v st',Jh 176 [iN s,.bool false,.bool true,.bool z,.ptr c3 0 0,.ptr c1 0 0] st v st'∧v=iZ (Jq [110,117,109] n s false true z)∧Qt st st':=by
 refine JA Tryz.func176 Tryz.ntmps176 fun T K=>?_;have M:=Mem.start hf;refine Qb 2 K M fun _ K=>?_;refine p1 K (Qf rfl (Qx (M.JH Q7 h3.Jd) (Qd Qn rfl))) fun _ K=>?_;refine Qb 1 K M fun _ K=>?_;refine Uj K rfl (fun _ e15 K=>?_) fun _ e15 K=>?_
 ·refine Qb 9 K M fun _ K=>?_;refine p1 K (Qf rfl (Qx (M.JH Q7 h3.Jd) (Qd Qn rfl))) fun _ K=>?_;refine Qb 1 K M fun _ K=>?_;refine Uj K rfl (fun _ e28 K=>?_) fun _ e28 K=>?_
  ·exact XP
  refine Qb 5 K M fun _ K=>?_;refine p1 K (Qf rfl (Qx (M.JH Q7 h3.Jd) (Qd Qn rfl))) fun _ K=>?_;refine Qb 1 K M ?_;refine⟨congrArg (AV.int .i64) ?_,M.qt⟩;clear M K;rw[Yd]
  first|(simp_all;done)|(simp_all;omega)|(repeat' split)<;>first|(simp_all;done)|(simp_all;omega)|omega
 refine Qb 2 K M fun _ K=>?_;refine pg K rfl rfl (Qf rfl (Qx (M.JH Q7 h1.Jd) (Qd Qn rfl))) fun _ K=>?_;refine Qb 1 K M fun _ K=>?_;refine pg K rfl rfl (Z4 Yv rfl rfl) fun _ K=>?_;refine Qb 2 K M fun _ K=>?_;refine Qp (K.QG rfl) (fun h11=>?_) (fun h11=>?_)
 ·have hb11:=h11;refine Qb 3 K M ?_;refine⟨congrArg (AV.int .i64) ?_,M.qt⟩;clear M K;rw[Yd]
  first|(simp_all;done)|(simp_all;omega)|(repeat' split)<;>first|(simp_all;done)|(simp_all;omega)|omega
 have hb11:=h11;refine Qb 1 K M fun _ K=>?_;refine p1 K (Qf rfl (Qx (M.JH Q7 h3.Jd) (Qd Qn rfl))) fun _ K=>?_;refine Qb 1 K M fun _ K=>?_;refine Uj K rfl (fun _ e28 K=>?_) fun _ e28 K=>?_
 ·refine Qb 6 K M ?_;refine⟨congrArg (AV.int .i64) ?_,M.qt⟩;clear M K;rw[Yd]
  first|(simp_all;done)|(simp_all;omega)|(repeat' split)<;>first|(simp_all;done)|(simp_all;omega)|omega
 exact XP

theorem OI(hf:Qi st)(n s:Nat)(z:Bool)(hs:s<n+2)(hn:n≤20)(h1:Qy st.h.get c1 0 [iN n])(h3:Qy st.h.get c3 0 [iZ (n+1:Nat)]): ∃v st',Jh 176 [iN s,.bool false,.bool false,.bool z,.ptr c3 0 0,.ptr c1 0 0] st v st'∧v=iZ (Jq [110,117,109] n s false false z)∧Qt st st':=by
 refine JA Tryz.func176 Tryz.ntmps176 fun T K=>?_;have M:=Mem.start hf;refine Qb 2 K M fun _ K=>?_;refine p1 K (Qf rfl (Qx (M.JH Q7 h3.Jd) (Qd Qn rfl))) fun _ K=>?_;refine Qb 1 K M fun _ K=>?_;refine Uj K rfl (fun _ e15 K=>?_) fun _ e15 K=>?_
 ·refine Qb 9 K M fun _ K=>?_;refine p1 K (Qf rfl (Qx (M.JH Q7 h3.Jd) (Qd Qn rfl))) fun _ K=>?_;refine Qb 1 K M fun _ K=>?_;refine Uj K rfl (fun _ e28 K=>?_) fun _ e28 K=>?_
  ·exact XP
  refine Qb 5 K M fun _ K=>?_;refine p1 K (Qf rfl (Qx (M.JH Q7 h3.Jd) (Qd Qn rfl))) fun _ K=>?_;refine Qb 1 K M ?_;refine⟨congrArg (AV.int .i64) ?_,M.qt⟩;clear M K;rw[Yd]
  first|(simp_all;done)|(simp_all;omega)|(repeat' split)<;>first|(simp_all;done)|(simp_all;omega)|omega
 refine Qb 2 K M fun _ K=>?_;refine pg K rfl rfl (Qf rfl (Qx (M.JH Q7 h1.Jd) (Qd Qn rfl))) fun _ K=>?_;refine Qb 1 K M fun _ K=>?_;refine pg K rfl rfl (Z4 Yv rfl rfl) fun _ K=>?_;refine Qb 2 K M fun _ K=>?_;refine Qp (K.QG rfl) (fun h11=>?_) (fun h11=>?_)
 ·have hb11:=h11;refine Qb 3 K M ?_;refine⟨congrArg (AV.int .i64) ?_,M.qt⟩;clear M K;rw[Yd]
  first|(simp_all;done)|(simp_all;omega)|(repeat' split)<;>first|(simp_all;done)|(simp_all;omega)|omega
 have hb11:=h11;refine Qb 1 K M fun _ K=>?_;refine p1 K (Qf rfl (Qx (M.JH Q7 h3.Jd) (Qd Qn rfl))) fun _ K=>?_;refine Qb 1 K M fun _ K=>?_;refine Uj K rfl (fun _ e28 K=>?_) fun _ e28 K=>?_
 ·refine Qb 6 K M ?_;refine⟨congrArg (AV.int .i64) ?_,M.qt⟩;clear M K;rw[Yd]
  first|(simp_all;done)|(simp_all;omega)|(repeat' split)<;>first|(simp_all;done)|(simp_all;omega)|omega
 exact XP

theorem R7(hf:Qi st)(n s:Nat)(x y z:Bool)(hs:s<n+2)(hn:n≤20)(h1:Qy st.h.get c1 0 [.int .i64 (n:Nat)])(h3:Qy st.h.get c3 0 [.int .i64 (n+1:Nat)]): ∃v st',Jh 176 [.int .i64 (s:Nat),.bool x,.bool y,.bool z,.ptr c3 0 0,.ptr c1 0 0] st v st'∧v=.int .i64 (Jq [110,117,109] n s x y z)∧Qt st st':=by
 cases x
 ·cases y
  ·exact OI hf n s z hs hn h1 h3
  ·exact OH hf n s z hs hn h1 h3
 ·cases y
  ·exact OG hf n s z hs hn h1 h3
  ·exact OF hf n s z hs hn h1 h3
end Go.Proofs.YtiknomepbklibaaGreatDoor
