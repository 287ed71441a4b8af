/-
  Atoms: the program's machines, its automata of atoms.
-/
import Derived.Test.YtiknomepbklibaaGreatDoorFzCof
import Derived.Test.YtiknomepbklibaaGreatDoorFzMnd
namespace Go.Proofs.YtiknomepbklibaaGreatDoor
open Go Go.RowKit
set_option maxHeartbeats 8000000
set_option linter.unusedVariables false
set_option linter.unusedSimpArgs false
set_option linter.unnecessarySimpa false
set_option linter.unusedSectionVars false
set_option maxRecDepth 100000
variable {M:QU} {c c1 c3 m n0:Nat} {h0:Hp} {l:List AV} {st:St}

def FU(st:St)(f:FuncId)(fc:List AV)(o:List Nat)(n:Nat):Prop:= ∀st1,Qt st st1→ ∀(s:Nat) (x y z:Bool),s<Qp o n→ ∃v st2,Ev Tryz.prog Q4 f ([]++([.int .i64 (s:Nat),.bool x,.bool y,.bool z]++fc)) st1 v st2∧v=.int .i64 (Jn o n s x y z)∧Qt st1 st2
def FT(f:FuncId)(p:Bool→Bool→Bool→Bool):Prop:= ∀st1,Qj st1→ ∀x y z:Bool,∃v st2,Ev Tryz.prog Q4 f [.bool x,.bool y,.bool z] st1 v st2∧v=.bool (p x y z)∧Qt st1 st2
theorem B8(f:Nat):KD (.fn f [] []) (.fn f [] [])=true:=by
 have h: ∀n:Nat,Nat.beq n n=true:=fun n=>by simp
 show Qo (Nat.beq f f) (Qo (EY [] []) (EY [] []) false) false=true;rw[h];rfl
theorem AH(f c:Nat):KD (.fn f [] [.ptr c 0 0]) (.fn f [] [.ptr c 0 0])=true:=by
 have h: ∀n:Nat,Nat.beq n n=true:=fun n=>by simp
 show Qo (Nat.beq f f) (Qo (EY [] []) (Qo (Qo (Nat.beq c c) true false) true false) false) false=true;rw[h,h];rfl
theorem Q0.later{st1:St}(r:Q0 st.h.get c m l)(hf:Qj st)(q:Qt st st1):Q0 st1.h.get c m l:=r.frame (q.J6 c (r.lt hf))
theorem Fu(n s:Nat)(x y z:Bool):Jn [115,105,110,103] n s x y z=(if x=false then((s:Nat):Int)else if s=0 then 1 else-1):=by
 unfold Jn;rw[if_neg QE,if_neg QE,if_neg QE,if_neg QE,if_neg QE,if_neg QE,if_pos rfl]
theorem WM(n s:Nat)(x y z:Bool):Jn [102,108,97,103] n s x y z=(if s=1∨x=true then 1 else-1):=by
 unfold Jn;rw[if_neg QE,if_neg QE,if_neg QE,if_neg QE,if_neg QE,if_neg QE,if_neg QE,if_pos rfl]
theorem Yh(n s:Nat)(x y z:Bool):Jn [108,101,115,115] n s x y z=(if x=false∧y=false then((s:Nat):Int)else if s=0∧x=true∧y=false then 1 else if s=1∧y=true∧x=false then 2 else-1):=by
 unfold Jn;rw[if_neg QE,if_neg QE,if_neg QE,if_neg QE,if_neg QE,if_neg QE,if_neg QE,if_neg QE,if_pos rfl]
theorem JT(n s:Nat)(x y z:Bool):Jn [112,108,117,115] n s x y z=(if s=0∧x=true∧y=decide (n=0)then 1 else if(s=0∧x=false∧y=false)∨(s=n+1∧x=false∧y=false)then((s:Nat):Int)else if 0<s∧s<n+1∧x=false∧y=decide (s=n)then((s+1:Nat):Int)else-1):=by
 unfold Jn;rw[if_neg QE,if_neg QE,if_neg QE,if_neg QE,if_neg QE,if_neg QE,if_neg QE,if_neg QE,if_neg QE,if_pos rfl]
theorem UZ(n s:Nat)(x y z:Bool):Jn [110,117,109] n s x y z=(if s<n+1∧x=decide (s=n)then((s+1:Nat):Int)else if s=n+1∧x=false then((n+1:Nat):Int)else-1):=by
 unfold Jn;rw[if_neg QE,if_neg QE,if_neg QE,if_neg QE,if_neg QE,if_neg QE,if_neg QE,if_neg QE,if_neg QE,if_neg QE]
theorem Mem.XB{X:List Nat}{st':St}(h:Mem h0 n0 X st M)(q:Qt st st')(r:Q0 st'.h.get c m l)(hc:st.n≤c):Mem h0 n0 X st' (M++[(c,m,l)]):=by
 have h1:=h.quiet q;refine⟨h1.fresh,h1.le,h1.base,fun c' m' l' hm=>?_,fun c' m' l' hm=>?_,fun c' m' l' hm=>?_,?_,h1.J6⟩
 ·rcases List.mem_append.1 hm with hm|hm
  ·exact h1.row c' m' l' hm
  ·have e:=List.mem_singleton.1 hm
   injection e with e1 e;injection e with e2 e3
   subst e1 e2 e3;exact r
 ·rcases List.mem_append.1 hm with hm|hm
  ·exact h1.lt c' m' l' hm
  ·have e:=List.mem_singleton.1 hm
   injection e with e1 e
   rw[e1];exact r.lt q.fresh
 ·rcases List.mem_append.1 hm with hm|hm
  ·exact h1.own c' m' l' hm
  ·have e:=List.mem_singleton.1 hm
   injection e with e1 e
   rw[e1];exact .inl (Nat.le_trans h.le hc)
 ·rw[List.map_append];refine List.nodup_append.2 ⟨h1.nodup,by simp,fun a ha b hb e=>?_⟩;subst e;obtain⟨⟨c',m',l'⟩,e1,e2⟩:=List.mem_map.1 ha
  have e3:a=c:=by simpa using hb
  have e2:c'=a:=e2;have:=h.lt c' m' l' e1;omega
theorem Mem.qS{k:Nat}(h:Mem h0 n0 [] st M)(hk:M[k]? =some (c,m,l)):n0≤c:=(h.own c m l (List.mem_of_getElem? hk)).resolve_right QA
theorem Mem.DK{X:List Nat}{st':St}{c2 m2:Nat}{l2:List AV}(h:Mem h0 n0 X st M)(q:Qt st st')(r:Q0 st'.h.get c m l)(r2:Q0 st'.h.get c2 m2 l2)(hc:st.n≤c)(hc2:st.n≤c2)(hne:c≠c2):Mem h0 n0 X st' (M++[(c,m,l),(c2,m2,l2)]):=by
 have h1:=h.quiet q;have a1:=h.XB q r hc;have a2:=h.XB q r2 hc2;refine⟨h1.fresh,h1.le,h1.base,fun c' m' l' hm=>?_,fun c' m' l' hm=>?_,fun c' m' l' hm=>?_,?_,h1.J6⟩
 ·rcases List.mem_append.1 hm with hm|hm
  ·exact h1.row c' m' l' hm
  ·rcases List.mem_cons.1 hm with e|hm
   ·exact a1.row c' m' l' (by simp[e])
   ·exact a2.row c' m' l' (by simp at hm;simp[hm])
 ·rcases List.mem_append.1 hm with hm|hm
  ·exact h1.lt c' m' l' hm
  ·rcases List.mem_cons.1 hm with e|hm
   ·exact a1.lt c' m' l' (by simp[e])
   ·exact a2.lt c' m' l' (by simp at hm;simp[hm])
 ·rcases List.mem_append.1 hm with hm|hm
  ·exact h1.own c' m' l' hm
  ·rcases List.mem_cons.1 hm with e|hm
   ·exact a1.own c' m' l' (by simp[e])
   ·exact a2.own c' m' l' (by simp at hm;simp[hm])
 ·have b1:=a1.nodup;have b2:=a2.nodup;simp only[List.map_append,List.map_cons,List.map_nil]at b1 b2 ⊢;rw[List.nodup_append]at b1 b2 ⊢;refine⟨b1.1,by simp[hne],fun a ha b hb=>?_⟩;rcases List.mem_cons.1 hb with rfl|hb
  ·exact b1.2.2 a ha _ QA
  ·exact b2.2.2 a ha b hb
theorem Kc{o:List Nat}{a b g n m:Int}{l:List Cr}(ha:Wl o)(h:Jm (.mk o a b g n l) m=true)(hm:m≤6):l=[]∧ ∃an bn gn nn:Nat,a=an∧b=bn∧g=gn∧n=nn∧an≤6∧bn≤6∧gn≤6∧nn≤20:=by
 obtain⟨vn,bn,kn,hsh,hv0,hv3,hk,hn1,hn2,hn0,hvar,hex⟩:=C3 h
 have hne:o≠[101,120]:=by rcases ha with rfl|rfl|rfl|rfl|rfl|rfl|rfl|rfl|rfl|rfl|rfl<;>simp
 rw[Jm]at h;simp only[Bool.and_eq_true,decide_eq_true_eq]at h
 have hl:(Ue o).2.1=0:=by rcases ha with rfl|rfl|rfl|rfl|rfl|rfl|rfl|rfl|rfl|rfl|rfl<;>decide
 have hl0:l.length=0:=by have:=h.2.1;omega
 have key: ∀i:Nat,i<3→0≤US a b g i∧US a b g i≤6:=fun i hi=>by
  obtain⟨h1,h2⟩:=hvar i hi
  by_cases hv:vn≤i
  ·have:=h1 hv;omega
  ·have:=h2 Qe hne;omega
 have k0:=key 0 Qe;have k1:=key 1 Qe;have k2:=key 2 Qe;simp only[US]at k0 k1 k2;simp at k0 k1 k2;exact⟨List.eq_nil_of_length_eq_zero hl0,a.toNat,b.toNat,g.toNat,n.toNat,by omega,by omega,by omega,by omega,by omega,by omega,by omega,by omega⟩

theorem vG(hf:Qj st)(x y z:Bool): ∃v st',Ev Tryz.prog Q4 160 [.bool x,.bool y,.bool z] st v st'∧v=.bool true∧Qt st st':=by
 refine JF Tryz.func160 Tryz.ntmps160 fun T K=>?_;have M:=Mem.start hf;refine Qc 2 K M ?_;refine⟨congrArg AV.bool ?_,M.qt⟩;clear M K
 first|rfl|(cases x<;>cases y<;>cases z<;>simp_all)

theorem vF:FT 160 fun x y z=>true:=fun st1 hf x y z=>vG hf x y z

theorem vE(hf:Qj st)(x y z:Bool): ∃v st',Ev Tryz.prog Q4 161 [.bool x,.bool y,.bool z] st v st'∧v=.bool (!x||y)∧Qt st st':=by
 refine JF Tryz.func161 Tryz.ntmps161 fun T K=>?_;have M:=Mem.start hf;refine Qc 3 K M ?_;intro _ K;refine oB K (Qg rfl) rfl fun b9 _ e9 K=>?_;cases b9
 ·replace e9:(x)=true:=by simpa using e9
  refine Qc 3 K M ?_;refine⟨congrArg AV.bool ?_,M.qt⟩;clear M K
  first|rfl|(cases x<;>cases y<;>cases z<;>simp_all)
 replace e9:(x)=false:=by simpa using e9
 refine Qc 3 K M ?_;refine⟨congrArg AV.bool ?_,M.qt⟩;clear M K
 first|rfl|(cases x<;>cases y<;>cases z<;>simp_all)

theorem vD:FT 161 fun x y z=>(!x||y):=fun st1 hf x y z=>vE hf x y z

theorem vC(hf:Qj st)(x y z:Bool): ∃v st',Ev Tryz.prog Q4 162 [.bool x,.bool y,.bool z] st v st'∧v=.bool (!x)∧Qt st st':=by
 refine JF Tryz.func162 Tryz.ntmps162 fun T K=>?_;have M:=Mem.start hf;refine Qc 4 K M ?_;refine⟨congrArg AV.bool ?_,M.qt⟩;clear M K
 first|rfl|(cases x<;>cases y<;>cases z<;>simp_all)

theorem vB:FT 162 fun x y z=>(!x):=fun st1 hf x y z=>vC hf x y z

theorem vA(hf:Qj st)(x y z:Bool): ∃v st',Ev Tryz.prog Q4 163 [.bool x,.bool y,.bool z] st v st'∧v=.bool (z==(x||y))∧Qt st st':=by
 refine JF Tryz.func163 Tryz.ntmps163 fun T K=>?_;have M:=Mem.start hf;refine Qc 3 K M ?_;intro _ K;refine oB K (Qg rfl) rfl fun b9 _ e9 K=>?_;cases b9
 ·refine Qc 2 K M ?_;intro _ K;refine p1 K (ZO Ym rfl rfl) fun _ K=>?_;refine Qc 1 K M ?_;refine⟨congrArg AV.bool ?_,M.qt⟩;clear M K
  first|rfl|(cases x<;>cases y<;>cases z<;>simp_all)
 refine Qc 2 K M ?_;intro _ K;refine p1 K (ZO Ym rfl rfl) fun _ K=>?_;refine Qc 1 K M ?_;refine⟨congrArg AV.bool ?_,M.qt⟩;clear M K
 first|rfl|(cases x<;>cases y<;>cases z<;>simp_all)

theorem v7:FT 163 fun x y z=>(z==(x||y)):=fun st1 hf x y z=>vA hf x y z

theorem vz(hf:Qj st)(x y z:Bool): ∃v st',Ev Tryz.prog Q4 164 [.bool x,.bool y,.bool z] st v st'∧v=.bool (z==(x&&y))∧Qt st st':=by
 refine JF Tryz.func164 Tryz.ntmps164 fun T K=>?_;have M:=Mem.start hf;refine Qc 3 K M ?_;intro _ K;refine oB K (Qg rfl) rfl fun b9 _ e9 K=>?_;cases b9
 ·refine Qc 2 K M ?_;intro _ K;refine p1 K (ZO Ym rfl rfl) fun _ K=>?_;refine Qc 1 K M ?_;refine⟨congrArg AV.bool ?_,M.qt⟩;clear M K
  first|rfl|(cases x<;>cases y<;>cases z<;>simp_all)
 refine Qc 2 K M ?_;intro _ K;refine p1 K (ZO Ym rfl rfl) fun _ K=>?_;refine Qc 1 K M ?_;refine⟨congrArg AV.bool ?_,M.qt⟩;clear M K
 first|rfl|(cases x<;>cases y<;>cases z<;>simp_all)

theorem vy:FT 164 fun x y z=>(z==(x&&y)):=fun st1 hf x y z=>vz hf x y z

theorem vx(hf:Qj st)(x y z:Bool): ∃v st',Ev Tryz.prog Q4 165 [.bool x,.bool y,.bool z] st v st'∧v=.bool (z==(x&& !y))∧Qt st st':=by
 refine JF Tryz.func165 Tryz.ntmps165 fun T K=>?_;have M:=Mem.start hf;refine Qc 3 K M ?_;intro _ K;refine oB K (Qg rfl) rfl fun b9 _ e9 K=>?_;cases b9
 ·refine Qc 3 K M ?_;intro _ K;refine p1 K (ZO Ym rfl rfl) fun _ K=>?_;refine Qc 1 K M ?_;refine⟨congrArg AV.bool ?_,M.qt⟩;clear M K
  first|rfl|(cases x<;>cases y<;>cases z<;>simp_all)
 refine Qc 3 K M ?_;intro _ K;refine p1 K (ZO Ym rfl rfl) fun _ K=>?_;refine Qc 1 K M ?_;refine⟨congrArg AV.bool ?_,M.qt⟩;clear M K
 first|rfl|(cases x<;>cases y<;>cases z<;>simp_all)

theorem vw:FT 165 fun x y z=>(z==(x&& !y)):=fun st1 hf x y z=>vx hf x y z

theorem Ww(hf:Qj st){g:FuncId}{p:Bool→Bool→Bool→Bool}(hr:Q0 st.h.get c1 0 [.fn g [] []])(hg:FT g p)(s:Int)(x y z:Bool): ∃v st',Ev Tryz.prog Q4 174 [iZ s,.bool x,.bool y,.bool z,.ptr c1 0 0] st v st'∧v=iZ (if p x y z=true then 0 else-1)∧Qt st st':=by
 refine JF Tryz.func174 Tryz.ntmps174 fun T K=>?_;have M:=Mem.start hf;refine Qc 1 K M ?_;intro _ K;refine p1 K (Qd rfl (Qz (M.JG QA hr.Jd) (Qf Xi rfl))) fun _ K=>?_;refine Qc 3 K M ?_;intro _ K;obtain⟨v14,st14,ev14,rfl,q14⟩:=hg _ M.fresh x y z;refine p1 K (ZP rfl rfl ev14) fun _ K=>?_;replace M:=M.quiet q14;refine Un ?_;show W _ _ _ _ _ _ _;refine Qq (K.QI rfl) (fun h14=>?_) (fun h14=>?_)
 ·have hb14:=h14;refine Qc 1 K M ?_;refine⟨congrArg (AV.int .i64) ?_,M.qt⟩
  first|(rw[if_pos (by assumption)];done)|(rw[if_neg (by simp_all)];done)
 have hb14:=h14;refine Qc 1 K M ?_;refine⟨congrArg (AV.int .i64) ?_,M.qt⟩
 first|(rw[if_pos (by assumption)];done)|(rw[if_neg (by simp_all)];done)

theorem A8(hf:Qj st)(g:FuncId): ∃v st',Ev Tryz.prog Q4 159 [(.fn g [] [])] st v st'∧ ∃c1,v=.agg [.fn 174 [] [.ptr c1 0 0],iZ 0,iZ 1]∧Q0 st'.h.get c1 0 [.fn g [] []]∧st.n≤c1∧Qt st st':=by
 refine JF Tryz.func159 Tryz.ntmps159 fun T K=>?_;have M:=Mem.start hf;refine au 2 K M ?_;intro c1 c2 _ _ K _ M;refine p1 K (Xt rfl rfl) fun _ K=>?_;refine au 2 K M ?_;intro _ _ K _ M;refine Qc 0 K M ?_;exact⟨c1,rfl,M.UX (k:=1) rfl,M.qS (k:=1) rfl,M.qt⟩

theorem Cx(hf:Qj st)(n s:Nat)(y:Bool)(z:Bool)(hs:s<2): ∃v st',Ev Tryz.prog Q4 166 [iN s,.bool true,.bool y,.bool z] st v st'∧v=iZ (Jn [115,105,110,103] n s true y z)∧Qt st st':=by
 refine JF Tryz.func166 Tryz.ntmps166 fun T K=>?_;have M:=Mem.start hf;refine Qc 8 K M ?_;intro _ K;refine JP K rfl (fun h13=>?_) fun h13=>?_
 ·refine Qc 1 K M ?_;refine⟨congrArg (AV.int .i64) ?_,M.qt⟩;clear M K;rw[Fu]
  first|(simp_all;done)|(simp_all;omega)|(repeat' split)<;>first|(simp_all;done)|(simp_all;omega)|omega
 refine Qc 1 K M ?_;refine⟨congrArg (AV.int .i64) ?_,M.qt⟩;clear M K;rw[Fu]
 first|(simp_all;done)|(simp_all;omega)|(repeat' split)<;>first|(simp_all;done)|(simp_all;omega)|omega

theorem Cy(hf:Qj st)(n s:Nat)(y:Bool)(z:Bool)(hs:s<2): ∃v st',Ev Tryz.prog Q4 166 [iN s,.bool false,.bool y,.bool z] st v st'∧v=iZ (Jn [115,105,110,103] n s false y z)∧Qt st st':=by
 refine JF Tryz.func166 Tryz.ntmps166 fun T K=>?_;have M:=Mem.start hf;refine Qc 7 K M ?_;refine⟨congrArg (AV.int .i64) ?_,M.qt⟩;clear M K;rw[Fu]
 first|(simp_all;done)|(simp_all;omega)|(repeat' split)<;>first|(simp_all;done)|(simp_all;omega)|omega

theorem Tu(hf:Qj st)(n s:Nat)(x y z:Bool)(hs:s<2): ∃v st',Ev Tryz.prog Q4 166 [.int .i64 (s:Nat),.bool x,.bool y,.bool z] st v st'∧v=.int .i64 (Jn [115,105,110,103] n s x y z)∧Qt st st':=by
 cases x
 ·exact Cy hf n s y z hs
 ·exact Cx hf n s y z hs

theorem Rg(hf:Qj st)(n s:Nat)(y:Bool)(z:Bool)(hs:s<2): ∃v st',Ev Tryz.prog Q4 167 [iN s,.bool true,.bool y,.bool z] st v st'∧v=iZ (Jn [102,108,97,103] n s true y z)∧Qt st st':=by
 refine JF Tryz.func167 Tryz.ntmps167 fun T K=>?_;have M:=Mem.start hf;refine Qc 3 K M ?_;intro _ K;refine Um K (Qg rfl) rfl (fun _ e11 K=>?_) fun _ e11 K=>?_
 ·refine Qc 4 K M ?_;refine⟨congrArg (AV.int .i64) ?_,M.qt⟩;clear M K;rw[WM]
  first|(simp_all;done)|(simp_all;omega)|(repeat' split)<;>first|(simp_all;done)|(simp_all;omega)|omega
 refine Qc 4 K M ?_;refine⟨congrArg (AV.int .i64) ?_,M.qt⟩;clear M K;rw[WM]
 first|(simp_all;done)|(simp_all;omega)|(repeat' split)<;>first|(simp_all;done)|(simp_all;omega)|omega

theorem Rh(hf:Qj st)(n s:Nat)(y:Bool)(z:Bool)(hs:s<2): ∃v st',Ev Tryz.prog Q4 167 [iN s,.bool false,.bool y,.bool z] st v st'∧v=iZ (Jn [102,108,97,103] n s false y z)∧Qt st st':=by
 refine JF Tryz.func167 Tryz.ntmps167 fun T K=>?_;have M:=Mem.start hf;refine Qc 3 K M ?_;intro _ K;refine Um K (Qg rfl) rfl (fun _ e11 K=>?_) fun _ e11 K=>?_
 ·refine Qc 4 K M ?_;refine⟨congrArg (AV.int .i64) ?_,M.qt⟩;clear M K;rw[WM]
  first|(simp_all;done)|(simp_all;omega)|(repeat' split)<;>first|(simp_all;done)|(simp_all;omega)|omega
 refine Qc 4 K M ?_;refine⟨congrArg (AV.int .i64) ?_,M.qt⟩;clear M K;rw[WM]
 first|(simp_all;done)|(simp_all;omega)|(repeat' split)<;>first|(simp_all;done)|(simp_all;omega)|omega

theorem ud(hf:Qj st)(n s:Nat)(x y z:Bool)(hs:s<2): ∃v st',Ev Tryz.prog Q4 167 [.int .i64 (s:Nat),.bool x,.bool y,.bool z] st v st'∧v=.int .i64 (Jn [102,108,97,103] n s x y z)∧Qt st st':=by
 cases x
 ·exact Rh hf n s y z hs
 ·exact Rg hf n s y z hs

theorem Df(hf:Qj st)(n s:Nat)(z:Bool)(hs:s<3): ∃v st',Ev Tryz.prog Q4 168 [iN s,.bool true,.bool true,.bool z] st v st'∧v=iZ (Jn [108,101,115,115] n s true true z)∧Qt st st':=by
 refine JF Tryz.func168 Tryz.ntmps168 fun T K=>?_;have M:=Mem.start hf;refine Qc 11 K M ?_;intro _ K;refine Um K (Qg rfl) rfl (fun _ e20 K=>?_) fun _ e20 K=>?_
 ·refine Qc 10 K M ?_;intro _ K;refine Um K (Qg rfl) rfl (fun _ e30 K=>?_) fun _ e30 K=>?_
  ·refine Qc 9 K M ?_;refine⟨congrArg (AV.int .i64) ?_,M.qt⟩;clear M K;rw[Yh]
   first|(simp_all;done)|(simp_all;omega)|(repeat' split)<;>first|(simp_all;done)|(simp_all;omega)|omega
  refine Qc 9 K M ?_;refine⟨congrArg (AV.int .i64) ?_,M.qt⟩;clear M K;rw[Yh]
  first|(simp_all;done)|(simp_all;omega)|(repeat' split)<;>first|(simp_all;done)|(simp_all;omega)|omega
 refine Qc 10 K M ?_;intro _ K;refine Um K (Qg rfl) rfl (fun _ e30 K=>?_) fun _ e30 K=>?_
 ·refine Qc 9 K M ?_;refine⟨congrArg (AV.int .i64) ?_,M.qt⟩;clear M K;rw[Yh]
  first|(simp_all;done)|(simp_all;omega)|(repeat' split)<;>first|(simp_all;done)|(simp_all;omega)|omega
 exact XH

theorem Dg(hf:Qj st)(n s:Nat)(z:Bool)(hs:s<3): ∃v st',Ev Tryz.prog Q4 168 [iN s,.bool true,.bool false,.bool z] st v st'∧v=iZ (Jn [108,101,115,115] n s true false z)∧Qt st st':=by
 refine JF Tryz.func168 Tryz.ntmps168 fun T K=>?_;have M:=Mem.start hf;refine Qc 11 K M ?_;intro _ K;refine Um K (Qg rfl) rfl (fun _ e20 K=>?_) fun _ e20 K=>?_
 ·refine Qc 10 K M ?_;intro _ K;refine Um K (Qg rfl) rfl (fun _ e30 K=>?_) fun _ e30 K=>?_
  ·refine Qc 9 K M ?_;refine⟨congrArg (AV.int .i64) ?_,M.qt⟩;clear M K;rw[Yh]
   first|(simp_all;done)|(simp_all;omega)|(repeat' split)<;>first|(simp_all;done)|(simp_all;omega)|omega
  refine Qc 9 K M ?_;refine⟨congrArg (AV.int .i64) ?_,M.qt⟩;clear M K;rw[Yh]
  first|(simp_all;done)|(simp_all;omega)|(repeat' split)<;>first|(simp_all;done)|(simp_all;omega)|omega
 refine Qc 9 K M ?_;refine⟨congrArg (AV.int .i64) ?_,M.qt⟩;clear M K;rw[Yh]
 first|(simp_all;done)|(simp_all;omega)|(repeat' split)<;>first|(simp_all;done)|(simp_all;omega)|omega

theorem Dh(hf:Qj st)(n s:Nat)(z:Bool)(hs:s<3): ∃v st',Ev Tryz.prog Q4 168 [iN s,.bool false,.bool true,.bool z] st v st'∧v=iZ (Jn [108,101,115,115] n s false true z)∧Qt st st':=by
 refine JF Tryz.func168 Tryz.ntmps168 fun T K=>?_;have M:=Mem.start hf;refine Qc 11 K M ?_;intro _ K;refine Um K (Qg rfl) rfl (fun _ e20 K=>?_) fun _ e20 K=>?_
 ·refine Qc 10 K M ?_;intro _ K;refine Um K (Qg rfl) rfl (fun _ e30 K=>?_) fun _ e30 K=>?_
  ·refine Qc 9 K M ?_;refine⟨congrArg (AV.int .i64) ?_,M.qt⟩;clear M K;rw[Yh]
   first|(simp_all;done)|(simp_all;omega)|(repeat' split)<;>first|(simp_all;done)|(simp_all;omega)|omega
  refine Qc 9 K M ?_;refine⟨congrArg (AV.int .i64) ?_,M.qt⟩;clear M K;rw[Yh]
  first|(simp_all;done)|(simp_all;omega)|(repeat' split)<;>first|(simp_all;done)|(simp_all;omega)|omega
 refine Qc 10 K M ?_;intro _ K;refine Um K (Qg rfl) rfl (fun _ e30 K=>?_) fun _ e30 K=>?_
 ·refine Qc 9 K M ?_;refine⟨congrArg (AV.int .i64) ?_,M.qt⟩;clear M K;rw[Yh]
  first|(simp_all;done)|(simp_all;omega)|(repeat' split)<;>first|(simp_all;done)|(simp_all;omega)|omega
 exact XH

theorem Di(hf:Qj st)(n s:Nat)(z:Bool)(hs:s<3): ∃v st',Ev Tryz.prog Q4 168 [iN s,.bool false,.bool false,.bool z] st v st'∧v=iZ (Jn [108,101,115,115] n s false false z)∧Qt st st':=by
 refine JF Tryz.func168 Tryz.ntmps168 fun T K=>?_;have M:=Mem.start hf;refine Qc 11 K M ?_;refine⟨congrArg (AV.int .i64) ?_,M.qt⟩;clear M K;rw[Yh]
 first|(simp_all;done)|(simp_all;omega)|(repeat' split)<;>first|(simp_all;done)|(simp_all;omega)|omega

theorem jG(hf:Qj st)(n s:Nat)(x y z:Bool)(hs:s<3): ∃v st',Ev Tryz.prog Q4 168 [.int .i64 (s:Nat),.bool x,.bool y,.bool z] st v st'∧v=.int .i64 (Jn [108,101,115,115] n s x y z)∧Qt st st':=by
 cases x
 ·cases y
  ·exact Di hf n s z hs
  ·exact Dh hf n s z hs
 ·cases y
  ·exact Dg hf n s z hs
  ·exact Df hf n s z hs

theorem N4(hf:Qj st)(n s:Nat)(z:Bool)(hs:s<n+2)(hn:n≤20)(h1:Q0 st.h.get c1 0 [iN n])(h3:Q0 st.h.get c3 0 [iZ (n+1:Nat)]): ∃v st',Ev Tryz.prog Q4 175 [iN s,.bool true,.bool true,.bool z,.ptr c1 0 0,.ptr c3 0 0] st v st'∧v=iZ (Jn [112,108,117,115] n s true true z)∧Qt st st':=by
 refine JF Tryz.func175 Tryz.ntmps175 fun T K=>?_;have M:=Mem.start hf;refine Qc 3 K M ?_;intro _ K;refine Um K (Qg rfl) rfl (fun _ e14 K=>?_) fun _ e14 K=>?_
 ·refine Qc 12 K M ?_;intro _ K;refine Um K (Qg rfl) rfl (fun _ e26 K=>?_) fun _ e26 K=>?_
  ·refine Qc 10 K M ?_;intro _ K;refine p1 K (Qd rfl (Qz (M.JG QA h3.Jd) (Qf Qr rfl))) fun _ K=>?_;refine Qc 1 K M ?_;intro _ K;refine Um K (Qg rfl) rfl (fun _ e37 K=>?_) fun _ e37 K=>?_
   ·refine Qc 11 K M ?_;intro _ K;refine Um K (Qg rfl) rfl (fun _ e49 K=>?_) fun _ e49 K=>?_
    ·exact XH
    refine Qc 1 K M ?_;intro _ K;refine pg K rfl rfl (Qd rfl (Qz (M.JG QA h3.Jd) (Qf Qr rfl))) fun _ K=>?_;refine Qc 2 K M ?_;intro _ K;refine Um K (Qg rfl) rfl (fun _ e54 K=>?_) fun _ e54 K=>?_
    ·exact XH
    refine Qc 13 K M ?_;refine⟨congrArg (AV.int .i64) ?_,M.qt⟩;clear M K;rw[JT]
    first|(simp_all;done)|(simp_all;omega)|(repeat' split)<;>first|(simp_all;done)|(simp_all;omega)|omega
   refine Qc 11 K M ?_;intro _ K;refine Um K (Qg rfl) rfl (fun _ e49 K=>?_) fun _ e49 K=>?_
   ·exact XH
   refine Qc 1 K M ?_;intro _ K;refine pg K rfl rfl (Qd rfl (Qz (M.JG QA h3.Jd) (Qf Qr rfl))) fun _ K=>?_;refine Qc 2 K M ?_;intro _ K;refine Um K (Qg rfl) rfl (fun _ e54 K=>?_) fun _ e54 K=>?_
   ·refine Qc 13 K M ?_;refine⟨congrArg (AV.int .i64) ?_,M.qt⟩;clear M K;rw[JT]
    first|(simp_all;done)|(simp_all;omega)|(repeat' split)<;>first|(simp_all;done)|(simp_all;omega)|omega
   exact XH
  exact XH
 refine Qc 4 K M ?_;intro _ K;refine pg K rfl rfl (Qd rfl (Qz (M.JG QA h1.Jd) (Qf Qr rfl))) fun _ K=>?_;refine Qc 1 K M ?_;intro _ K;refine pg K rfl rfl (ZO Ym rfl rfl) fun _ K=>?_;refine Qc 2 K M ?_;intro _ K;refine Qq (K.QI rfl) (fun h11=>?_) (fun h11=>?_)
 ·have hb11:=h11;refine Qc 1 K M ?_;refine⟨congrArg (AV.int .i64) ?_,M.qt⟩;clear M K;rw[JT]
  first|(simp_all;done)|(simp_all;omega)|(repeat' split)<;>first|(simp_all;done)|(simp_all;omega)|omega
 have hb11:=h11;refine Qc 2 K M ?_;intro _ K;refine Um K (Qg rfl) rfl (fun _ e26 K=>?_) fun _ e26 K=>?_
 ·exact XH
 refine Qc 10 K M ?_;intro _ K;refine p1 K (Qd rfl (Qz (M.JG QA h3.Jd) (Qf Qr rfl))) fun _ K=>?_;refine Qc 1 K M ?_;intro _ K;refine Um K (Qg rfl) rfl (fun _ e37 K=>?_) fun _ e37 K=>?_
 ·refine Qc 11 K M ?_;intro _ K;refine Um K (Qg rfl) rfl (fun _ e49 K=>?_) fun _ e49 K=>?_
  ·refine Qc 18 K M ?_;refine⟨congrArg (AV.int .i64) ?_,M.qt⟩;clear M K;rw[JT]
   first|(simp_all;done)|(simp_all;omega)|(repeat' split)<;>first|(simp_all;done)|(simp_all;omega)|omega
  exact XH
 exact XH

theorem N5(hf:Qj st)(n s:Nat)(z:Bool)(hs:s<n+2)(hn:n≤20)(h1:Q0 st.h.get c1 0 [iN n])(h3:Q0 st.h.get c3 0 [iZ (n+1:Nat)]): ∃v st',Ev Tryz.prog Q4 175 [iN s,.bool true,.bool false,.bool z,.ptr c1 0 0,.ptr c3 0 0] st v st'∧v=iZ (Jn [112,108,117,115] n s true false z)∧Qt st st':=by
 refine JF Tryz.func175 Tryz.ntmps175 fun T K=>?_;have M:=Mem.start hf;refine Qc 3 K M ?_;intro _ K;refine Um K (Qg rfl) rfl (fun _ e14 K=>?_) fun _ e14 K=>?_
 ·refine Qc 12 K M ?_;intro _ K;refine Um K (Qg rfl) rfl (fun _ e26 K=>?_) fun _ e26 K=>?_
  ·refine Qc 10 K M ?_;intro _ K;refine p1 K (Qd rfl (Qz (M.JG QA h3.Jd) (Qf Qr rfl))) fun _ K=>?_;refine Qc 1 K M ?_;intro _ K;refine Um K (Qg rfl) rfl (fun _ e37 K=>?_) fun _ e37 K=>?_
   ·refine Qc 11 K M ?_;intro _ K;refine Um K (Qg rfl) rfl (fun _ e49 K=>?_) fun _ e49 K=>?_
    ·exact XH
    refine Qc 1 K M ?_;intro _ K;refine pg K rfl rfl (Qd rfl (Qz (M.JG QA h3.Jd) (Qf Qr rfl))) fun _ K=>?_;refine Qc 2 K M ?_;intro _ K;refine Um K (Qg rfl) rfl (fun _ e54 K=>?_) fun _ e54 K=>?_
    ·exact XH
    refine Qc 13 K M ?_;refine⟨congrArg (AV.int .i64) ?_,M.qt⟩;clear M K;rw[JT]
    first|(simp_all;done)|(simp_all;omega)|(repeat' split)<;>first|(simp_all;done)|(simp_all;omega)|omega
   refine Qc 11 K M ?_;intro _ K;refine Um K (Qg rfl) rfl (fun _ e49 K=>?_) fun _ e49 K=>?_
   ·exact XH
   refine Qc 1 K M ?_;intro _ K;refine pg K rfl rfl (Qd rfl (Qz (M.JG QA h3.Jd) (Qf Qr rfl))) fun _ K=>?_;refine Qc 2 K M ?_;intro _ K;refine Um K (Qg rfl) rfl (fun _ e54 K=>?_) fun _ e54 K=>?_
   ·refine Qc 13 K M ?_;refine⟨congrArg (AV.int .i64) ?_,M.qt⟩;clear M K;rw[JT]
    first|(simp_all;done)|(simp_all;omega)|(repeat' split)<;>first|(simp_all;done)|(simp_all;omega)|omega
   exact XH
  exact XH
 refine Qc 4 K M ?_;intro _ K;refine pg K rfl rfl (Qd rfl (Qz (M.JG QA h1.Jd) (Qf Qr rfl))) fun _ K=>?_;refine Qc 1 K M ?_;intro _ K;refine pg K rfl rfl (ZO Ym rfl rfl) fun _ K=>?_;refine Qc 2 K M ?_;intro _ K;refine Qq (K.QI rfl) (fun h11=>?_) (fun h11=>?_)
 ·have hb11:=h11;refine Qc 1 K M ?_;refine⟨congrArg (AV.int .i64) ?_,M.qt⟩;clear M K;rw[JT]
  first|(simp_all;done)|(simp_all;omega)|(repeat' split)<;>first|(simp_all;done)|(simp_all;omega)|omega
 have hb11:=h11;refine Qc 2 K M ?_;intro _ K;refine Um K (Qg rfl) rfl (fun _ e26 K=>?_) fun _ e26 K=>?_
 ·exact XH
 refine Qc 10 K M ?_;intro _ K;refine p1 K (Qd rfl (Qz (M.JG QA h3.Jd) (Qf Qr rfl))) fun _ K=>?_;refine Qc 1 K M ?_;intro _ K;refine Um K (Qg rfl) rfl (fun _ e37 K=>?_) fun _ e37 K=>?_
 ·refine Qc 11 K M ?_;intro _ K;refine Um K (Qg rfl) rfl (fun _ e49 K=>?_) fun _ e49 K=>?_
  ·refine Qc 18 K M ?_;refine⟨congrArg (AV.int .i64) ?_,M.qt⟩;clear M K;rw[JT]
   first|(simp_all;done)|(simp_all;omega)|(repeat' split)<;>first|(simp_all;done)|(simp_all;omega)|omega
  exact XH
 exact XH

theorem N6(hf:Qj st)(n s:Nat)(z:Bool)(hs:s<n+2)(hn:n≤20)(h1:Q0 st.h.get c1 0 [iN n])(h3:Q0 st.h.get c3 0 [iZ (n+1:Nat)]): ∃v st',Ev Tryz.prog Q4 175 [iN s,.bool false,.bool true,.bool z,.ptr c1 0 0,.ptr c3 0 0] st v st'∧v=iZ (Jn [112,108,117,115] n s false true z)∧Qt st st':=by
 refine JF Tryz.func175 Tryz.ntmps175 fun T K=>?_;have M:=Mem.start hf;refine Qc 3 K M ?_;intro _ K;refine Um K (Qg rfl) rfl (fun _ e14 K=>?_) fun _ e14 K=>?_
 ·refine Qc 12 K M ?_;intro _ K;refine Um K (Qg rfl) rfl (fun _ e26 K=>?_) fun _ e26 K=>?_
  ·refine Qc 10 K M ?_;intro _ K;refine p1 K (Qd rfl (Qz (M.JG QA h3.Jd) (Qf Qr rfl))) fun _ K=>?_;refine Qc 1 K M ?_;intro _ K;refine Um K (Qg rfl) rfl (fun _ e37 K=>?_) fun _ e37 K=>?_
   ·refine Qc 11 K M ?_;intro _ K;refine Um K (Qg rfl) rfl (fun _ e49 K=>?_) fun _ e49 K=>?_
    ·exact XH
    refine Qc 1 K M ?_;intro _ K;refine pg K rfl rfl (Qd rfl (Qz (M.JG QA h3.Jd) (Qf Qr rfl))) fun _ K=>?_;refine Qc 2 K M ?_;intro _ K;refine Um K (Qg rfl) rfl (fun _ e54 K=>?_) fun _ e54 K=>?_
    ·exact XH
    refine Qc 6 K M ?_;intro _ K;refine pg K rfl rfl (Qd rfl (Qz (M.JG QA h1.Jd) (Qf Qr rfl))) fun _ K=>?_;refine Qc 1 K M ?_;intro _ K;refine pg K rfl rfl (ZO Ym rfl rfl) fun _ K=>?_;refine Qc 2 K M ?_;intro _ K;refine Qq (K.QI rfl) (fun h46=>?_) (fun h46=>?_)
    ·have hb46:=h46;refine Qc 3 K M ?_;refine⟨congrArg (AV.int .i64) ?_,M.qt⟩;clear M K;rw[JT]
     first|(simp_all;done)|(simp_all;omega)|(repeat' split)<;>first|(simp_all;done)|(simp_all;omega)|omega
    have hb46:=h46;refine Qc 1 K M ?_;refine⟨congrArg (AV.int .i64) ?_,M.qt⟩;clear M K;rw[JT]
    first|(simp_all;done)|(simp_all;omega)|(repeat' split)<;>first|(simp_all;done)|(simp_all;omega)|omega
   refine Qc 11 K M ?_;intro _ K;refine Um K (Qg rfl) rfl (fun _ e49 K=>?_) fun _ e49 K=>?_
   ·exact XH
   refine Qc 1 K M ?_;intro _ K;refine pg K rfl rfl (Qd rfl (Qz (M.JG QA h3.Jd) (Qf Qr rfl))) fun _ K=>?_;refine Qc 2 K M ?_;intro _ K;refine Um K (Qg rfl) rfl (fun _ e54 K=>?_) fun _ e54 K=>?_
   ·refine Qc 13 K M ?_;refine⟨congrArg (AV.int .i64) ?_,M.qt⟩;clear M K;rw[JT]
    first|(simp_all;done)|(simp_all;omega)|(repeat' split)<;>first|(simp_all;done)|(simp_all;omega)|omega
   exact XH
  exact XH
 refine Qc 12 K M ?_;intro _ K;refine Um K (Qg rfl) rfl (fun _ e26 K=>?_) fun _ e26 K=>?_
 ·exact XH
 refine Qc 10 K M ?_;intro _ K;refine p1 K (Qd rfl (Qz (M.JG QA h3.Jd) (Qf Qr rfl))) fun _ K=>?_;refine Qc 1 K M ?_;intro _ K;refine Um K (Qg rfl) rfl (fun _ e37 K=>?_) fun _ e37 K=>?_
 ·refine Qc 11 K M ?_;intro _ K;refine Um K (Qg rfl) rfl (fun _ e49 K=>?_) fun _ e49 K=>?_
  ·refine Qc 18 K M ?_;refine⟨congrArg (AV.int .i64) ?_,M.qt⟩;clear M K;rw[JT]
   first|(simp_all;done)|(simp_all;omega)|(repeat' split)<;>first|(simp_all;done)|(simp_all;omega)|omega
  exact XH
 exact XH

theorem N7(hf:Qj st)(n s:Nat)(z:Bool)(hs:s<n+2)(hn:n≤20)(h1:Q0 st.h.get c1 0 [iN n])(h3:Q0 st.h.get c3 0 [iZ (n+1:Nat)]): ∃v st',Ev Tryz.prog Q4 175 [iN s,.bool false,.bool false,.bool z,.ptr c1 0 0,.ptr c3 0 0] st v st'∧v=iZ (Jn [112,108,117,115] n s false false z)∧Qt st st':=by
 refine JF Tryz.func175 Tryz.ntmps175 fun T K=>?_;have M:=Mem.start hf;refine Qc 3 K M ?_;intro _ K;refine Um K (Qg rfl) rfl (fun _ e14 K=>?_) fun _ e14 K=>?_
 ·refine Qc 12 K M ?_;intro _ K;refine Um K (Qg rfl) rfl (fun _ e26 K=>?_) fun _ e26 K=>?_
  ·refine Qc 10 K M ?_;intro _ K;refine p1 K (Qd rfl (Qz (M.JG QA h3.Jd) (Qf Qr rfl))) fun _ K=>?_;refine Qc 1 K M ?_;intro _ K;refine Um K (Qg rfl) rfl (fun _ e37 K=>?_) fun _ e37 K=>?_
   ·refine Qc 11 K M ?_;intro _ K;refine Um K (Qg rfl) rfl (fun _ e49 K=>?_) fun _ e49 K=>?_
    ·exact XH
    refine Qc 1 K M ?_;intro _ K;refine pg K rfl rfl (Qd rfl (Qz (M.JG QA h3.Jd) (Qf Qr rfl))) fun _ K=>?_;refine Qc 2 K M ?_;intro _ K;refine Um K (Qg rfl) rfl (fun _ e54 K=>?_) fun _ e54 K=>?_
    ·exact XH
    refine Qc 6 K M ?_;intro _ K;refine pg K rfl rfl (Qd rfl (Qz (M.JG QA h1.Jd) (Qf Qr rfl))) fun _ K=>?_;refine Qc 1 K M ?_;intro _ K;refine pg K rfl rfl (ZO Ym rfl rfl) fun _ K=>?_;refine Qc 2 K M ?_;intro _ K;refine Qq (K.QI rfl) (fun h46=>?_) (fun h46=>?_)
    ·have hb46:=h46;refine Qc 3 K M ?_;refine⟨congrArg (AV.int .i64) ?_,M.qt⟩;clear M K;rw[JT]
     first|(simp_all;done)|(simp_all;omega)|(repeat' split)<;>first|(simp_all;done)|(simp_all;omega)|omega
    have hb46:=h46;refine Qc 1 K M ?_;refine⟨congrArg (AV.int .i64) ?_,M.qt⟩;clear M K;rw[JT]
    first|(simp_all;done)|(simp_all;omega)|(repeat' split)<;>first|(simp_all;done)|(simp_all;omega)|omega
   refine Qc 11 K M ?_;refine⟨congrArg (AV.int .i64) ?_,M.qt⟩;clear M K;rw[JT]
   first|(simp_all;done)|(simp_all;omega)|(repeat' split)<;>first|(simp_all;done)|(simp_all;omega)|omega
  exact XH
 refine Qc 12 K M ?_;intro _ K;refine Um K (Qg rfl) rfl (fun _ e26 K=>?_) fun _ e26 K=>?_
 ·exact XH
 refine Qc 12 K M ?_;refine⟨congrArg (AV.int .i64) ?_,M.qt⟩;clear M K;rw[JT]
 first|(simp_all;done)|(simp_all;omega)|(repeat' split)<;>first|(simp_all;done)|(simp_all;omega)|omega

theorem D9(hf:Qj st)(n s:Nat)(x y z:Bool)(hs:s<n+2)(hn:n≤20)(h1:Q0 st.h.get c1 0 [.int .i64 (n:Nat)])(h3:Q0 st.h.get c3 0 [.int .i64 (n+1:Nat)]): ∃v st',Ev Tryz.prog Q4 175 [.int .i64 (s:Nat),.bool x,.bool y,.bool z,.ptr c1 0 0,.ptr c3 0 0] st v st'∧v=.int .i64 (Jn [112,108,117,115] n s x y z)∧Qt st st':=by
 cases x
 ·cases y
  ·exact N7 hf n s z hs hn h1 h3
  ·exact N6 hf n s z hs hn h1 h3
 ·cases y
  ·exact N5 hf n s z hs hn h1 h3
  ·exact N4 hf n s z hs hn h1 h3

theorem NZ(hf:Qj st)(n s:Nat)(z:Bool)(hs:s<n+2)(hn:n≤20)(h1:Q0 st.h.get c1 0 [iN n])(h3:Q0 st.h.get c3 0 [iZ (n+1:Nat)]): ∃v st',Ev Tryz.prog Q4 176 [iN s,.bool true,.bool true,.bool z,.ptr c3 0 0,.ptr c1 0 0] st v st'∧v=iZ (Jn [110,117,109] n s true true z)∧Qt st st':=by
 refine JF Tryz.func176 Tryz.ntmps176 fun T K=>?_;have M:=Mem.start hf;refine Qc 2 K M ?_;intro _ K;refine p1 K (Qd rfl (Qz (M.JG QA h3.Jd) (Qf Qr rfl))) fun _ K=>?_;refine Qc 1 K M ?_;intro _ K;refine Um K (Qg rfl) rfl (fun _ e15 K=>?_) fun _ e15 K=>?_
 ·refine Qc 9 K M ?_;intro _ K;refine p1 K (Qd rfl (Qz (M.JG QA h3.Jd) (Qf Qr rfl))) fun _ K=>?_;refine Qc 1 K M ?_;intro _ K;refine Um K (Qg rfl) rfl (fun _ e28 K=>?_) fun _ e28 K=>?_
  ·exact XH
  refine Qc 6 K M ?_;refine⟨congrArg (AV.int .i64) ?_,M.qt⟩;clear M K;rw[UZ]
  first|(simp_all;done)|(simp_all;omega)|(repeat' split)<;>first|(simp_all;done)|(simp_all;omega)|omega
 refine Qc 2 K M ?_;intro _ K;refine pg K rfl rfl (Qd rfl (Qz (M.JG QA h1.Jd) (Qf Qr rfl))) fun _ K=>?_;refine Qc 1 K M ?_;intro _ K;refine pg K rfl rfl (ZO Ym rfl rfl) fun _ K=>?_;refine Qc 2 K M ?_;intro _ K;refine Qq (K.QI rfl) (fun h11=>?_) (fun h11=>?_)
 ·have hb11:=h11;refine Qc 3 K M ?_;refine⟨congrArg (AV.int .i64) ?_,M.qt⟩;clear M K;rw[UZ]
  first|(simp_all;done)|(simp_all;omega)|(repeat' split)<;>first|(simp_all;done)|(simp_all;omega)|omega
 have hb11:=h11;refine Qc 1 K M ?_;intro _ K;refine p1 K (Qd rfl (Qz (M.JG QA h3.Jd) (Qf Qr rfl))) fun _ K=>?_;refine Qc 1 K M ?_;intro _ K;refine Um K (Qg rfl) rfl (fun _ e28 K=>?_) fun _ e28 K=>?_
 ·refine Qc 6 K M ?_;refine⟨congrArg (AV.int .i64) ?_,M.qt⟩;clear M K;rw[UZ]
  first|(simp_all;done)|(simp_all;omega)|(repeat' split)<;>first|(simp_all;done)|(simp_all;omega)|omega
 exact XH

theorem Oa(hf:Qj st)(n s:Nat)(z:Bool)(hs:s<n+2)(hn:n≤20)(h1:Q0 st.h.get c1 0 [iN n])(h3:Q0 st.h.get c3 0 [iZ (n+1:Nat)]): ∃v st',Ev Tryz.prog Q4 176 [iN s,.bool true,.bool false,.bool z,.ptr c3 0 0,.ptr c1 0 0] st v st'∧v=iZ (Jn [110,117,109] n s true false z)∧Qt st st':=by
 refine JF Tryz.func176 Tryz.ntmps176 fun T K=>?_;have M:=Mem.start hf;refine Qc 2 K M ?_;intro _ K;refine p1 K (Qd rfl (Qz (M.JG QA h3.Jd) (Qf Qr rfl))) fun _ K=>?_;refine Qc 1 K M ?_;intro _ K;refine Um K (Qg rfl) rfl (fun _ e15 K=>?_) fun _ e15 K=>?_
 ·refine Qc 9 K M ?_;intro _ K;refine p1 K (Qd rfl (Qz (M.JG QA h3.Jd) (Qf Qr rfl))) fun _ K=>?_;refine Qc 1 K M ?_;intro _ K;refine Um K (Qg rfl) rfl (fun _ e28 K=>?_) fun _ e28 K=>?_
  ·exact XH
  refine Qc 6 K M ?_;refine⟨congrArg (AV.int .i64) ?_,M.qt⟩;clear M K;rw[UZ]
  first|(simp_all;done)|(simp_all;omega)|(repeat' split)<;>first|(simp_all;done)|(simp_all;omega)|omega
 refine Qc 2 K M ?_;intro _ K;refine pg K rfl rfl (Qd rfl (Qz (M.JG QA h1.Jd) (Qf Qr rfl))) fun _ K=>?_;refine Qc 1 K M ?_;intro _ K;refine pg K rfl rfl (ZO Ym rfl rfl) fun _ K=>?_;refine Qc 2 K M ?_;intro _ K;refine Qq (K.QI rfl) (fun h11=>?_) (fun h11=>?_)
 ·have hb11:=h11;refine Qc 3 K M ?_;refine⟨congrArg (AV.int .i64) ?_,M.qt⟩;clear M K;rw[UZ]
  first|(simp_all;done)|(simp_all;omega)|(repeat' split)<;>first|(simp_all;done)|(simp_all;omega)|omega
 have hb11:=h11;refine Qc 1 K M ?_;intro _ K;refine p1 K (Qd rfl (Qz (M.JG QA h3.Jd) (Qf Qr rfl))) fun _ K=>?_;refine Qc 1 K M ?_;intro _ K;refine Um K (Qg rfl) rfl (fun _ e28 K=>?_) fun _ e28 K=>?_
 ·refine Qc 6 K M ?_;refine⟨congrArg (AV.int .i64) ?_,M.qt⟩;clear M K;rw[UZ]
  first|(simp_all;done)|(simp_all;omega)|(repeat' split)<;>first|(simp_all;done)|(simp_all;omega)|omega
 exact XH

theorem Oc(hf:Qj st)(n s:Nat)(z:Bool)(hs:s<n+2)(hn:n≤20)(h1:Q0 st.h.get c1 0 [iN n])(h3:Q0 st.h.get c3 0 [iZ (n+1:Nat)]): ∃v st',Ev Tryz.prog Q4 176 [iN s,.bool false,.bool true,.bool z,.ptr c3 0 0,.ptr c1 0 0] st v st'∧v=iZ (Jn [110,117,109] n s false true z)∧Qt st st':=by
 refine JF Tryz.func176 Tryz.ntmps176 fun T K=>?_;have M:=Mem.start hf;refine Qc 2 K M ?_;intro _ K;refine p1 K (Qd rfl (Qz (M.JG QA h3.Jd) (Qf Qr rfl))) fun _ K=>?_;refine Qc 1 K M ?_;intro _ K;refine Um K (Qg rfl) rfl (fun _ e15 K=>?_) fun _ e15 K=>?_
 ·refine Qc 9 K M ?_;intro _ K;refine p1 K (Qd rfl (Qz (M.JG QA h3.Jd) (Qf Qr rfl))) fun _ K=>?_;refine Qc 1 K M ?_;intro _ K;refine Um K (Qg rfl) rfl (fun _ e28 K=>?_) fun _ e28 K=>?_
  ·exact XH
  refine Qc 5 K M ?_;intro _ K;refine p1 K (Qd rfl (Qz (M.JG QA h3.Jd) (Qf Qr rfl))) fun _ K=>?_;refine Qc 1 K M ?_;refine⟨congrArg (AV.int .i64) ?_,M.qt⟩;clear M K;rw[UZ]
  first|(simp_all;done)|(simp_all;omega)|(repeat' split)<;>first|(simp_all;done)|(simp_all;omega)|omega
 refine Qc 2 K M ?_;intro _ K;refine pg K rfl rfl (Qd rfl (Qz (M.JG QA h1.Jd) (Qf Qr rfl))) fun _ K=>?_;refine Qc 1 K M ?_;intro _ K;refine pg K rfl rfl (ZO Ym rfl rfl) fun _ K=>?_;refine Qc 2 K M ?_;intro _ K;refine Qq (K.QI rfl) (fun h11=>?_) (fun h11=>?_)
 ·have hb11:=h11;refine Qc 3 K M ?_;refine⟨congrArg (AV.int .i64) ?_,M.qt⟩;clear M K;rw[UZ]
  first|(simp_all;done)|(simp_all;omega)|(repeat' split)<;>first|(simp_all;done)|(simp_all;omega)|omega
 have hb11:=h11;refine Qc 1 K M ?_;intro _ K;refine p1 K (Qd rfl (Qz (M.JG QA h3.Jd) (Qf Qr rfl))) fun _ K=>?_;refine Qc 1 K M ?_;intro _ K;refine Um K (Qg rfl) rfl (fun _ e28 K=>?_) fun _ e28 K=>?_
 ·refine Qc 6 K M ?_;refine⟨congrArg (AV.int .i64) ?_,M.qt⟩;clear M K;rw[UZ]
  first|(simp_all;done)|(simp_all;omega)|(repeat' split)<;>first|(simp_all;done)|(simp_all;omega)|omega
 exact XH

theorem Od(hf:Qj st)(n s:Nat)(z:Bool)(hs:s<n+2)(hn:n≤20)(h1:Q0 st.h.get c1 0 [iN n])(h3:Q0 st.h.get c3 0 [iZ (n+1:Nat)]): ∃v st',Ev Tryz.prog Q4 176 [iN s,.bool false,.bool false,.bool z,.ptr c3 0 0,.ptr c1 0 0] st v st'∧v=iZ (Jn [110,117,109] n s false false z)∧Qt st st':=by
 refine JF Tryz.func176 Tryz.ntmps176 fun T K=>?_;have M:=Mem.start hf;refine Qc 2 K M ?_;intro _ K;refine p1 K (Qd rfl (Qz (M.JG QA h3.Jd) (Qf Qr rfl))) fun _ K=>?_;refine Qc 1 K M ?_;intro _ K;refine Um K (Qg rfl) rfl (fun _ e15 K=>?_) fun _ e15 K=>?_
 ·refine Qc 9 K M ?_;intro _ K;refine p1 K (Qd rfl (Qz (M.JG QA h3.Jd) (Qf Qr rfl))) fun _ K=>?_;refine Qc 1 K M ?_;intro _ K;refine Um K (Qg rfl) rfl (fun _ e28 K=>?_) fun _ e28 K=>?_
  ·exact XH
  refine Qc 5 K M ?_;intro _ K;refine p1 K (Qd rfl (Qz (M.JG QA h3.Jd) (Qf Qr rfl))) fun _ K=>?_;refine Qc 1 K M ?_;refine⟨congrArg (AV.int .i64) ?_,M.qt⟩;clear M K;rw[UZ]
  first|(simp_all;done)|(simp_all;omega)|(repeat' split)<;>first|(simp_all;done)|(simp_all;omega)|omega
 refine Qc 2 K M ?_;intro _ K;refine pg K rfl rfl (Qd rfl (Qz (M.JG QA h1.Jd) (Qf Qr rfl))) fun _ K=>?_;refine Qc 1 K M ?_;intro _ K;refine pg K rfl rfl (ZO Ym rfl rfl) fun _ K=>?_;refine Qc 2 K M ?_;intro _ K;refine Qq (K.QI rfl) (fun h11=>?_) (fun h11=>?_)
 ·have hb11:=h11;refine Qc 3 K M ?_;refine⟨congrArg (AV.int .i64) ?_,M.qt⟩;clear M K;rw[UZ]
  first|(simp_all;done)|(simp_all;omega)|(repeat' split)<;>first|(simp_all;done)|(simp_all;omega)|omega
 have hb11:=h11;refine Qc 1 K M ?_;intro _ K;refine p1 K (Qd rfl (Qz (M.JG QA h3.Jd) (Qf Qr rfl))) fun _ K=>?_;refine Qc 1 K M ?_;intro _ K;refine Um K (Qg rfl) rfl (fun _ e28 K=>?_) fun _ e28 K=>?_
 ·refine Qc 6 K M ?_;refine⟨congrArg (AV.int .i64) ?_,M.qt⟩;clear M K;rw[UZ]
  first|(simp_all;done)|(simp_all;omega)|(repeat' split)<;>first|(simp_all;done)|(simp_all;omega)|omega
 exact XH

theorem PN(hf:Qj st)(n s:Nat)(x y z:Bool)(hs:s<n+2)(hn:n≤20)(h1:Q0 st.h.get c1 0 [.int .i64 (n:Nat)])(h3:Q0 st.h.get c3 0 [.int .i64 (n+1:Nat)]): ∃v st',Ev Tryz.prog Q4 176 [.int .i64 (s:Nat),.bool x,.bool y,.bool z,.ptr c3 0 0,.ptr c1 0 0] st v st'∧v=.int .i64 (Jn [110,117,109] n s x y z)∧Qt st st':=by
 cases x
 ·cases y
  ·exact Od hf n s z hs hn h1 h3
  ·exact Oc hf n s z hs hn h1 h3
 ·cases y
  ·exact Oa hf n s z hs hn h1 h3
  ·exact NZ hf n s z hs hn h1 h3
end Go.Proofs.YtiknomepbklibaaGreatDoor
