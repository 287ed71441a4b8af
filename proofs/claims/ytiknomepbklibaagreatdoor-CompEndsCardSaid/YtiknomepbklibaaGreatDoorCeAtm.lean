/-
  Atoms: the program's machines, its automata of atoms.
-/
import Derived.Test.YtiknomepbklibaaGreatDoorCeCof
import Derived.Test.YtiknomepbklibaaGreatDoorCeMnd
namespace Go.Proofs.YtiknomepbklibaaGreatDoor
open Go Go.RowKit
set_option maxHeartbeats 8000000
set_option linter.unusedVariables false
set_option linter.unusedSimpArgs false
set_option linter.unnecessarySimpa false
set_option linter.unusedSectionVars false
set_option maxRecDepth 100000
variable {M:QT} {c c1 c3 m n0:Nat} {h0:Hp} {l:List AV} {st:St}

def FZ(st:St)(f:FuncId)(fc:List AV)(o:List Nat)(n:Nat):Prop:= ∀st1,Qt st st1→ ∀(s:Nat) (x y z:Bool),s<Qp o n→ ∃v st2,Ev Tryz.prog Q0 f ([]++([.int .i64 (s:Nat),.bool x,.bool y,.bool z]++fc)) st1 v st2∧v=.int .i64 (Jm o n s x y z)∧Qt st1 st2
def FY(f:FuncId)(p:Bool→Bool→Bool→Bool):Prop:= ∀st1,Qj st1→ ∀x y z:Bool,∃v st2,Ev Tryz.prog Q0 f [.bool x,.bool y,.bool z] st1 v st2∧v=.bool (p x y z)∧Qt st1 st2
theorem BV(f:Nat):OO (.fn f [] []) (.fn f [] [])=true:=by
 have h: ∀n:Nat,Nat.beq n n=true:=fun n=>by simp
 show Qo (Nat.beq f f) (Qo (Ap [] []) (Ap [] []) false) false=true;rw[h];rfl
theorem AP(f c:Nat):OO (.fn f [] [.ptr c 0 0]) (.fn f [] [.ptr c 0 0])=true:=by
 have h: ∀n:Nat,Nat.beq n n=true:=fun n=>by simp
 show Qo (Nat.beq f f) (Qo (Ap [] []) (Qo (Qo (Nat.beq c c) true false) true false) false) false=true;rw[h,h];rfl
theorem Q4.later{st1:St}(r:Q4 st.h.get c m l)(hf:Qj st)(q:Qt st st1):Q4 st1.h.get c m l:=r.frame (q.J5 c (r.lt hf))
theorem F5(n s:Nat)(x y z:Bool):Jm [115,105,110,103] n s x y z=(if x=false then((s:Nat):Int)else if s=0 then 1 else-1):=by
 unfold Jm;rw[if_neg QD,if_neg QD,if_neg QD,if_neg QD,if_neg QD,if_neg QD,if_pos rfl]
theorem WS(n s:Nat)(x y z:Bool):Jm [102,108,97,103] n s x y z=(if s=1∨x=true then 1 else-1):=by
 unfold Jm;rw[if_neg QD,if_neg QD,if_neg QD,if_neg QD,if_neg QD,if_neg QD,if_neg QD,if_pos rfl]
theorem Yh(n s:Nat)(x y z:Bool):Jm [108,101,115,115] n s x y z=(if x=false∧y=false then((s:Nat):Int)else if s=0∧x=true∧y=false then 1 else if s=1∧y=true∧x=false then 2 else-1):=by
 unfold Jm;rw[if_neg QD,if_neg QD,if_neg QD,if_neg QD,if_neg QD,if_neg QD,if_neg QD,if_neg QD,if_pos rfl]
theorem JV(n s:Nat)(x y z:Bool):Jm [112,108,117,115] n s x y z=(if s=0∧x=true∧y=decide (n=0)then 1 else if(s=0∧x=false∧y=false)∨(s=n+1∧x=false∧y=false)then((s:Nat):Int)else if 0<s∧s<n+1∧x=false∧y=decide (s=n)then((s+1:Nat):Int)else-1):=by
 unfold Jm;rw[if_neg QD,if_neg QD,if_neg QD,if_neg QD,if_neg QD,if_neg QD,if_neg QD,if_neg QD,if_neg QD,if_pos rfl]
theorem UY(n s:Nat)(x y z:Bool):Jm [110,117,109] n s x y z=(if s<n+1∧x=decide (s=n)then((s+1:Nat):Int)else if s=n+1∧x=false then((n+1:Nat):Int)else-1):=by
 unfold Jm;rw[if_neg QD,if_neg QD,if_neg QD,if_neg QD,if_neg QD,if_neg QD,if_neg QD,if_neg QD,if_neg QD,if_neg QD]
theorem Mem.XE{X:List Nat}{st':St}(h:Mem h0 n0 X st M)(q:Qt st st')(r:Q4 st'.h.get c m l)(hc:st.n≤c):Mem h0 n0 X st' (M++[(c,m,l)]):=by
 have h1:=h.quiet q;refine⟨h1.fresh,h1.le,h1.base,fun c' m' l' hm=>?_,fun c' m' l' hm=>?_,fun c' m' l' hm=>?_,?_,h1.J5⟩
 ·rcases List.mem_append.1 hm with hm|hm
  ·exact h1.row c' m' l' hm
  ·have e:=List.mem_singleton.1 hm
   injection e with e1 e;injection e with e2 e3
   subst e1 e2 e3;exact r
 ·rcases List.mem_append.1 hm with hm|hm
  ·exact h1.lt c' m' l' hm
  ·have e:=List.mem_singleton.1 hm
   injection e with e1 e
   rw[e1];exact r.lt q.fresh
 ·rcases List.mem_append.1 hm with hm|hm
  ·exact h1.own c' m' l' hm
  ·have e:=List.mem_singleton.1 hm
   injection e with e1 e
   rw[e1];exact .inl (Nat.le_trans h.le hc)
 ·rw[List.map_append];refine List.nodup_append.2 ⟨h1.nodup,by simp,fun a ha b hb e=>?_⟩;subst e;obtain⟨⟨c',m',l'⟩,e1,e2⟩:=List.mem_map.1 ha
  have e3:a=c:=by simpa using hb
  have e2:c'=a:=e2;have:=h.lt c' m' l' e1;omega
theorem Mem.jm{k:Nat}(h:Mem h0 n0 [] st M)(hk:M[k]? =some (c,m,l)):n0≤c:=(h.own c m l (List.mem_of_getElem? hk)).resolve_right Q7
theorem Mem.Pd{X:List Nat}{st':St}{c2 m2:Nat}{l2:List AV}(h:Mem h0 n0 X st M)(q:Qt st st')(r:Q4 st'.h.get c m l)(r2:Q4 st'.h.get c2 m2 l2)(hc:st.n≤c)(hc2:st.n≤c2)(hne:c≠c2):Mem h0 n0 X st' (M++[(c,m,l),(c2,m2,l2)]):=by
 have h1:=h.quiet q;have a1:=h.XE q r hc;have a2:=h.XE q r2 hc2;refine⟨h1.fresh,h1.le,h1.base,fun c' m' l' hm=>?_,fun c' m' l' hm=>?_,fun c' m' l' hm=>?_,?_,h1.J5⟩
 ·rcases List.mem_append.1 hm with hm|hm
  ·exact h1.row c' m' l' hm
  ·rcases List.mem_cons.1 hm with e|hm
   ·exact a1.row c' m' l' (by simp[e])
   ·exact a2.row c' m' l' (by simp at hm;simp[hm])
 ·rcases List.mem_append.1 hm with hm|hm
  ·exact h1.lt c' m' l' hm
  ·rcases List.mem_cons.1 hm with e|hm
   ·exact a1.lt c' m' l' (by simp[e])
   ·exact a2.lt c' m' l' (by simp at hm;simp[hm])
 ·rcases List.mem_append.1 hm with hm|hm
  ·exact h1.own c' m' l' hm
  ·rcases List.mem_cons.1 hm with e|hm
   ·exact a1.own c' m' l' (by simp[e])
   ·exact a2.own c' m' l' (by simp at hm;simp[hm])
 ·have b1:=a1.nodup;have b2:=a2.nodup;simp only[List.map_append,List.map_cons,List.map_nil]at b1 b2 ⊢;rw[List.nodup_append]at b1 b2 ⊢;refine⟨b1.1,by simp[hne],fun a ha b hb=>?_⟩;rcases List.mem_cons.1 hb with rfl|hb
  ·exact b1.2.2 a ha _ Q7
  ·exact b2.2.2 a ha b hb
theorem Kt{o:List Nat}{a b g n m:Int}{l:List Cr}(ha:Wm o)(h:Je (.mk o a b g n l) m=true)(hm:m≤6):l=[]∧ ∃an bn gn nn:Nat,a=an∧b=bn∧g=gn∧n=nn∧an≤6∧bn≤6∧gn≤6∧nn≤20:=by
 obtain⟨vn,bn,kn,hsh,hv0,hv3,hk,hn1,hn2,hn0,hvar,hex⟩:=CM h
 have hne:o≠[101,120]:=by rcases ha with rfl|rfl|rfl|rfl|rfl|rfl|rfl|rfl|rfl|rfl|rfl<;>simp
 rw[Je]at h;simp only[Bool.and_eq_true,decide_eq_true_eq]at h
 have hl:(Uf o).2.1=0:=by rcases ha with rfl|rfl|rfl|rfl|rfl|rfl|rfl|rfl|rfl|rfl|rfl<;>decide
 have hl0:l.length=0:=by have:=h.2.1;omega
 have key: ∀i:Nat,i<3→0≤US a b g i∧US a b g i≤6:=fun i hi=>by
  obtain⟨h1,h2⟩:=hvar i hi
  by_cases hv:vn≤i
  ·have:=h1 hv;omega
  ·have:=h2 Qe hne;omega
 have k0:=key 0 Qe;have k1:=key 1 Qe;have k2:=key 2 Qe;simp only[US]at k0 k1 k2;simp at k0 k1 k2;exact⟨List.eq_nil_of_length_eq_zero hl0,a.toNat,b.toNat,g.toNat,n.toNat,by omega,by omega,by omega,by omega,by omega,by omega,by omega,by omega⟩

theorem w8(hf:Qj st)(x y z:Bool): ∃v st',Ev Tryz.prog Q0 160 [.bool x,.bool y,.bool z] st v st'∧v=.bool true∧Qt st st':=by
 refine JB Tryz.func160 Tryz.ntmps160 fun T K=>?_;have M:=Mem.start hf;refine Qc 2 K M ?_;refine⟨congrArg AV.bool ?_,M.qt⟩;clear M K
 first|rfl|(cases x<;>cases y<;>cases z<;>simp_all)

theorem w7:FY 160 fun x y z=>true:=fun st1 hf x y z=>w8 hf x y z

theorem wz(hf:Qj st)(x y z:Bool): ∃v st',Ev Tryz.prog Q0 161 [.bool x,.bool y,.bool z] st v st'∧v=.bool (!x||y)∧Qt st st':=by
 refine JB Tryz.func161 Tryz.ntmps161 fun T K=>?_;have M:=Mem.start hf;refine Qc 3 K M ?_;intro _ K;refine oB K (Qg rfl) rfl fun b9 _ e9 K=>?_;cases b9
 ·replace e9:(x)=true:=by simpa using e9
  refine Qc 3 K M ?_;refine⟨congrArg AV.bool ?_,M.qt⟩;clear M K
  first|rfl|(cases x<;>cases y<;>cases z<;>simp_all)
 replace e9:(x)=false:=by simpa using e9
 refine Qc 3 K M ?_;refine⟨congrArg AV.bool ?_,M.qt⟩;clear M K
 first|rfl|(cases x<;>cases y<;>cases z<;>simp_all)

theorem wv:FY 161 fun x y z=>(!x||y):=fun st1 hf x y z=>wz hf x y z

theorem wu(hf:Qj st)(x y z:Bool): ∃v st',Ev Tryz.prog Q0 162 [.bool x,.bool y,.bool z] st v st'∧v=.bool (!x)∧Qt st st':=by
 refine JB Tryz.func162 Tryz.ntmps162 fun T K=>?_;have M:=Mem.start hf;refine Qc 4 K M ?_;refine⟨congrArg AV.bool ?_,M.qt⟩;clear M K
 first|rfl|(cases x<;>cases y<;>cases z<;>simp_all)

theorem wq:FY 162 fun x y z=>(!x):=fun st1 hf x y z=>wu hf x y z

theorem wo(hf:Qj st)(x y z:Bool): ∃v st',Ev Tryz.prog Q0 163 [.bool x,.bool y,.bool z] st v st'∧v=.bool (z==(x||y))∧Qt st st':=by
 refine JB Tryz.func163 Tryz.ntmps163 fun T K=>?_;have M:=Mem.start hf;refine Qc 3 K M ?_;intro _ K;refine oB K (Qg rfl) rfl fun b9 _ e9 K=>?_;cases b9
 ·refine Qc 2 K M ?_;intro _ K;refine p1 K (Z0 Yn rfl rfl) fun _ K=>?_;refine Qc 1 K M ?_;refine⟨congrArg AV.bool ?_,M.qt⟩;clear M K
  first|rfl|(cases x<;>cases y<;>cases z<;>simp_all)
 refine Qc 2 K M ?_;intro _ K;refine p1 K (Z0 Yn rfl rfl) fun _ K=>?_;refine Qc 1 K M ?_;refine⟨congrArg AV.bool ?_,M.qt⟩;clear M K
 first|rfl|(cases x<;>cases y<;>cases z<;>simp_all)

theorem wm:FY 163 fun x y z=>(z==(x||y)):=fun st1 hf x y z=>wo hf x y z

theorem wk(hf:Qj st)(x y z:Bool): ∃v st',Ev Tryz.prog Q0 164 [.bool x,.bool y,.bool z] st v st'∧v=.bool (z==(x&&y))∧Qt st st':=by
 refine JB Tryz.func164 Tryz.ntmps164 fun T K=>?_;have M:=Mem.start hf;refine Qc 3 K M ?_;intro _ K;refine oB K (Qg rfl) rfl fun b9 _ e9 K=>?_;cases b9
 ·refine Qc 2 K M ?_;intro _ K;refine p1 K (Z0 Yn rfl rfl) fun _ K=>?_;refine Qc 1 K M ?_;refine⟨congrArg AV.bool ?_,M.qt⟩;clear M K
  first|rfl|(cases x<;>cases y<;>cases z<;>simp_all)
 refine Qc 2 K M ?_;intro _ K;refine p1 K (Z0 Yn rfl rfl) fun _ K=>?_;refine Qc 1 K M ?_;refine⟨congrArg AV.bool ?_,M.qt⟩;clear M K
 first|rfl|(cases x<;>cases y<;>cases z<;>simp_all)

theorem wj:FY 164 fun x y z=>(z==(x&&y)):=fun st1 hf x y z=>wk hf x y z

theorem wi(hf:Qj st)(x y z:Bool): ∃v st',Ev Tryz.prog Q0 165 [.bool x,.bool y,.bool z] st v st'∧v=.bool (z==(x&& !y))∧Qt st st':=by
 refine JB Tryz.func165 Tryz.ntmps165 fun T K=>?_;have M:=Mem.start hf;refine Qc 3 K M ?_;intro _ K;refine oB K (Qg rfl) rfl fun b9 _ e9 K=>?_;cases b9
 ·refine Qc 3 K M ?_;intro _ K;refine p1 K (Z0 Yn rfl rfl) fun _ K=>?_;refine Qc 1 K M ?_;refine⟨congrArg AV.bool ?_,M.qt⟩;clear M K
  first|rfl|(cases x<;>cases y<;>cases z<;>simp_all)
 refine Qc 3 K M ?_;intro _ K;refine p1 K (Z0 Yn rfl rfl) fun _ K=>?_;refine Qc 1 K M ?_;refine⟨congrArg AV.bool ?_,M.qt⟩;clear M K
 first|rfl|(cases x<;>cases y<;>cases z<;>simp_all)

theorem wh:FY 165 fun x y z=>(z==(x&& !y)):=fun st1 hf x y z=>wi hf x y z

theorem Ww(hf:Qj st){g:FuncId}{p:Bool→Bool→Bool→Bool}(hr:Q4 st.h.get c1 0 [.fn g [] []])(hg:FY g p)(s:Int)(x y z:Bool): ∃v st',Ev Tryz.prog Q0 174 [iZ s,.bool x,.bool y,.bool z,.ptr c1 0 0] st v st'∧v=iZ (if p x y z=true then 0 else-1)∧Qt st st':=by
 refine JB Tryz.func174 Tryz.ntmps174 fun T K=>?_;have M:=Mem.start hf;refine Qc 1 K M ?_;intro _ K;refine p1 K (Qd rfl (Qz (M.JE Q7 hr.Jb) (Qf Xj rfl))) fun _ K=>?_;refine Qc 3 K M ?_;intro _ K;obtain⟨v14,st14,ev14,rfl,q14⟩:=hg _ M.fresh x y z;refine p1 K (ZP rfl rfl ev14) fun _ K=>?_;replace M:=M.quiet q14;refine Up ?_;show W _ _ _ _ _ _ _;refine Qq (K.QH rfl) (fun h14=>?_) (fun h14=>?_)
 ·have hb14:=h14;refine Qc 1 K M ?_;refine⟨congrArg (AV.int .i64) ?_,M.qt⟩
  first|(rw[if_pos (by assumption)];done)|(rw[if_neg (by simp_all)];done)
 have hb14:=h14;refine Qc 1 K M ?_;refine⟨congrArg (AV.int .i64) ?_,M.qt⟩
 first|(rw[if_pos (by assumption)];done)|(rw[if_neg (by simp_all)];done)

theorem AF(hf:Qj st)(g:FuncId): ∃v st',Ev Tryz.prog Q0 159 [(.fn g [] [])] st v st'∧ ∃c1,v=.agg [.fn 174 [] [.ptr c1 0 0],iZ 0,iZ 1]∧Q4 st'.h.get c1 0 [.fn g [] []]∧st.n≤c1∧Qt st st':=by
 refine JB Tryz.func159 Tryz.ntmps159 fun T K=>?_;have M:=Mem.start hf;refine au 2 K M ?_;intro c1 c2 _ _ K _ M;refine p1 K (Xt rfl rfl) fun _ K=>?_;refine au 2 K M ?_;intro _ _ K _ M;refine Qc 0 K M ?_;exact⟨c1,rfl,M.UW (k:=1) rfl,M.jm (k:=1) rfl,M.qt⟩

theorem CK(hf:Qj st)(n s:Nat)(y:Bool)(z:Bool)(hs:s<2): ∃v st',Ev Tryz.prog Q0 166 [iN s,.bool true,.bool y,.bool z] st v st'∧v=iZ (Jm [115,105,110,103] n s true y z)∧Qt st st':=by
 refine JB Tryz.func166 Tryz.ntmps166 fun T K=>?_;have M:=Mem.start hf;refine Qc 8 K M ?_;intro _ K;refine JN K rfl (fun h13=>?_) fun h13=>?_
 ·refine Qc 1 K M ?_;refine⟨congrArg (AV.int .i64) ?_,M.qt⟩;clear M K;rw[F5]
  first|(simp_all;done)|(simp_all;omega)|(repeat' split)<;>first|(simp_all;done)|(simp_all;omega)|omega
 refine Qc 1 K M ?_;refine⟨congrArg (AV.int .i64) ?_,M.qt⟩;clear M K;rw[F5]
 first|(simp_all;done)|(simp_all;omega)|(repeat' split)<;>first|(simp_all;done)|(simp_all;omega)|omega

theorem CL(hf:Qj st)(n s:Nat)(y:Bool)(z:Bool)(hs:s<2): ∃v st',Ev Tryz.prog Q0 166 [iN s,.bool false,.bool y,.bool z] st v st'∧v=iZ (Jm [115,105,110,103] n s false y z)∧Qt st st':=by
 refine JB Tryz.func166 Tryz.ntmps166 fun T K=>?_;have M:=Mem.start hf;refine Qc 7 K M ?_;refine⟨congrArg (AV.int .i64) ?_,M.qt⟩;clear M K;rw[F5]
 first|(simp_all;done)|(simp_all;omega)|(repeat' split)<;>first|(simp_all;done)|(simp_all;omega)|omega

theorem TI(hf:Qj st)(n s:Nat)(x y z:Bool)(hs:s<2): ∃v st',Ev Tryz.prog Q0 166 [.int .i64 (s:Nat),.bool x,.bool y,.bool z] st v st'∧v=.int .i64 (Jm [115,105,110,103] n s x y z)∧Qt st st':=by
 cases x
 ·exact CL hf n s y z hs
 ·exact CK hf n s y z hs

theorem R2(hf:Qj st)(n s:Nat)(y:Bool)(z:Bool)(hs:s<2): ∃v st',Ev Tryz.prog Q0 167 [iN s,.bool true,.bool y,.bool z] st v st'∧v=iZ (Jm [102,108,97,103] n s true y z)∧Qt st st':=by
 refine JB Tryz.func167 Tryz.ntmps167 fun T K=>?_;have M:=Mem.start hf;refine Qc 3 K M ?_;intro _ K;refine Un K (Qg rfl) rfl (fun _ e11 K=>?_) fun _ e11 K=>?_
 ·refine Qc 4 K M ?_;refine⟨congrArg (AV.int .i64) ?_,M.qt⟩;clear M K;rw[WS]
  first|(simp_all;done)|(simp_all;omega)|(repeat' split)<;>first|(simp_all;done)|(simp_all;omega)|omega
 refine Qc 4 K M ?_;refine⟨congrArg (AV.int .i64) ?_,M.qt⟩;clear M K;rw[WS]
 first|(simp_all;done)|(simp_all;omega)|(repeat' split)<;>first|(simp_all;done)|(simp_all;omega)|omega

theorem R3(hf:Qj st)(n s:Nat)(y:Bool)(z:Bool)(hs:s<2): ∃v st',Ev Tryz.prog Q0 167 [iN s,.bool false,.bool y,.bool z] st v st'∧v=iZ (Jm [102,108,97,103] n s false y z)∧Qt st st':=by
 refine JB Tryz.func167 Tryz.ntmps167 fun T K=>?_;have M:=Mem.start hf;refine Qc 3 K M ?_;intro _ K;refine Un K (Qg rfl) rfl (fun _ e11 K=>?_) fun _ e11 K=>?_
 ·refine Qc 4 K M ?_;refine⟨congrArg (AV.int .i64) ?_,M.qt⟩;clear M K;rw[WS]
  first|(simp_all;done)|(simp_all;omega)|(repeat' split)<;>first|(simp_all;done)|(simp_all;omega)|omega
 refine Qc 4 K M ?_;refine⟨congrArg (AV.int .i64) ?_,M.qt⟩;clear M K;rw[WS]
 first|(simp_all;done)|(simp_all;omega)|(repeat' split)<;>first|(simp_all;done)|(simp_all;omega)|omega

theorem uA(hf:Qj st)(n s:Nat)(x y z:Bool)(hs:s<2): ∃v st',Ev Tryz.prog Q0 167 [.int .i64 (s:Nat),.bool x,.bool y,.bool z] st v st'∧v=.int .i64 (Jm [102,108,97,103] n s x y z)∧Qt st st':=by
 cases x
 ·exact R3 hf n s y z hs
 ·exact R2 hf n s y z hs

theorem Dz(hf:Qj st)(n s:Nat)(z:Bool)(hs:s<3): ∃v st',Ev Tryz.prog Q0 168 [iN s,.bool true,.bool true,.bool z] st v st'∧v=iZ (Jm [108,101,115,115] n s true true z)∧Qt st st':=by
 refine JB Tryz.func168 Tryz.ntmps168 fun T K=>?_;have M:=Mem.start hf;refine Qc 11 K M ?_;intro _ K;refine Un K (Qg rfl) rfl (fun _ e20 K=>?_) fun _ e20 K=>?_
 ·refine Qc 10 K M ?_;intro _ K;refine Un K (Qg rfl) rfl (fun _ e30 K=>?_) fun _ e30 K=>?_
  ·refine Qc 9 K M ?_;refine⟨congrArg (AV.int .i64) ?_,M.qt⟩;clear M K;rw[Yh]
   first|(simp_all;done)|(simp_all;omega)|(repeat' split)<;>first|(simp_all;done)|(simp_all;omega)|omega
  refine Qc 9 K M ?_;refine⟨congrArg (AV.int .i64) ?_,M.qt⟩;clear M K;rw[Yh]
  first|(simp_all;done)|(simp_all;omega)|(repeat' split)<;>first|(simp_all;done)|(simp_all;omega)|omega
 refine Qc 10 K M ?_;intro _ K;refine Un K (Qg rfl) rfl (fun _ e30 K=>?_) fun _ e30 K=>?_
 ·refine Qc 9 K M ?_;refine⟨congrArg (AV.int .i64) ?_,M.qt⟩;clear M K;rw[Yh]
  first|(simp_all;done)|(simp_all;omega)|(repeat' split)<;>first|(simp_all;done)|(simp_all;omega)|omega
 exact XI

theorem D0(hf:Qj st)(n s:Nat)(z:Bool)(hs:s<3): ∃v st',Ev Tryz.prog Q0 168 [iN s,.bool true,.bool false,.bool z] st v st'∧v=iZ (Jm [108,101,115,115] n s true false z)∧Qt st st':=by
 refine JB Tryz.func168 Tryz.ntmps168 fun T K=>?_;have M:=Mem.start hf;refine Qc 11 K M ?_;intro _ K;refine Un K (Qg rfl) rfl (fun _ e20 K=>?_) fun _ e20 K=>?_
 ·refine Qc 10 K M ?_;intro _ K;refine Un K (Qg rfl) rfl (fun _ e30 K=>?_) fun _ e30 K=>?_
  ·refine Qc 9 K M ?_;refine⟨congrArg (AV.int .i64) ?_,M.qt⟩;clear M K;rw[Yh]
   first|(simp_all;done)|(simp_all;omega)|(repeat' split)<;>first|(simp_all;done)|(simp_all;omega)|omega
  refine Qc 9 K M ?_;refine⟨congrArg (AV.int .i64) ?_,M.qt⟩;clear M K;rw[Yh]
  first|(simp_all;done)|(simp_all;omega)|(repeat' split)<;>first|(simp_all;done)|(simp_all;omega)|omega
 refine Qc 9 K M ?_;refine⟨congrArg (AV.int .i64) ?_,M.qt⟩;clear M K;rw[Yh]
 first|(simp_all;done)|(simp_all;omega)|(repeat' split)<;>first|(simp_all;done)|(simp_all;omega)|omega

theorem D1(hf:Qj st)(n s:Nat)(z:Bool)(hs:s<3): ∃v st',Ev Tryz.prog Q0 168 [iN s,.bool false,.bool true,.bool z] st v st'∧v=iZ (Jm [108,101,115,115] n s false true z)∧Qt st st':=by
 refine JB Tryz.func168 Tryz.ntmps168 fun T K=>?_;have M:=Mem.start hf;refine Qc 11 K M ?_;intro _ K;refine Un K (Qg rfl) rfl (fun _ e20 K=>?_) fun _ e20 K=>?_
 ·refine Qc 10 K M ?_;intro _ K;refine Un K (Qg rfl) rfl (fun _ e30 K=>?_) fun _ e30 K=>?_
  ·refine Qc 9 K M ?_;refine⟨congrArg (AV.int .i64) ?_,M.qt⟩;clear M K;rw[Yh]
   first|(simp_all;done)|(simp_all;omega)|(repeat' split)<;>first|(simp_all;done)|(simp_all;omega)|omega
  refine Qc 9 K M ?_;refine⟨congrArg (AV.int .i64) ?_,M.qt⟩;clear M K;rw[Yh]
  first|(simp_all;done)|(simp_all;omega)|(repeat' split)<;>first|(simp_all;done)|(simp_all;omega)|omega
 refine Qc 10 K M ?_;intro _ K;refine Un K (Qg rfl) rfl (fun _ e30 K=>?_) fun _ e30 K=>?_
 ·refine Qc 9 K M ?_;refine⟨congrArg (AV.int .i64) ?_,M.qt⟩;clear M K;rw[Yh]
  first|(simp_all;done)|(simp_all;omega)|(repeat' split)<;>first|(simp_all;done)|(simp_all;omega)|omega
 exact XI

theorem D2(hf:Qj st)(n s:Nat)(z:Bool)(hs:s<3): ∃v st',Ev Tryz.prog Q0 168 [iN s,.bool false,.bool false,.bool z] st v st'∧v=iZ (Jm [108,101,115,115] n s false false z)∧Qt st st':=by
 refine JB Tryz.func168 Tryz.ntmps168 fun T K=>?_;have M:=Mem.start hf;refine Qc 11 K M ?_;refine⟨congrArg (AV.int .i64) ?_,M.qt⟩;clear M K;rw[Yh]
 first|(simp_all;done)|(simp_all;omega)|(repeat' split)<;>first|(simp_all;done)|(simp_all;omega)|omega

theorem jZ(hf:Qj st)(n s:Nat)(x y z:Bool)(hs:s<3): ∃v st',Ev Tryz.prog Q0 168 [.int .i64 (s:Nat),.bool x,.bool y,.bool z] st v st'∧v=.int .i64 (Jm [108,101,115,115] n s x y z)∧Qt st st':=by
 cases x
 ·cases y
  ·exact D2 hf n s z hs
  ·exact D1 hf n s z hs
 ·cases y
  ·exact D0 hf n s z hs
  ·exact Dz hf n s z hs

theorem NK(hf:Qj st)(n s:Nat)(z:Bool)(hs:s<n+2)(hn:n≤20)(h1:Q4 st.h.get c1 0 [iN n])(h3:Q4 st.h.get c3 0 [iZ (n+1:Nat)]): ∃v st',Ev Tryz.prog Q0 175 [iN s,.bool true,.bool true,.bool z,.ptr c1 0 0,.ptr c3 0 0] st v st'∧v=iZ (Jm [112,108,117,115] n s true true z)∧Qt st st':=by
 refine JB Tryz.func175 Tryz.ntmps175 fun T K=>?_;have M:=Mem.start hf;refine Qc 3 K M ?_;intro _ K;refine Un K (Qg rfl) rfl (fun _ e14 K=>?_) fun _ e14 K=>?_
 ·refine Qc 12 K M ?_;intro _ K;refine Un K (Qg rfl) rfl (fun _ e26 K=>?_) fun _ e26 K=>?_
  ·refine Qc 10 K M ?_;intro _ K;refine p1 K (Qd rfl (Qz (M.JE Q7 h3.Jb) (Qf Qr rfl))) fun _ K=>?_;refine Qc 1 K M ?_;intro _ K;refine Un K (Qg rfl) rfl (fun _ e37 K=>?_) fun _ e37 K=>?_
   ·refine Qc 11 K M ?_;intro _ K;refine Un K (Qg rfl) rfl (fun _ e49 K=>?_) fun _ e49 K=>?_
    ·exact XI
    refine Qc 1 K M ?_;intro _ K;refine pg K rfl rfl (Qd rfl (Qz (M.JE Q7 h3.Jb) (Qf Qr rfl))) fun _ K=>?_;refine Qc 2 K M ?_;intro _ K;refine Un K (Qg rfl) rfl (fun _ e54 K=>?_) fun _ e54 K=>?_
    ·exact XI
    refine Qc 13 K M ?_;refine⟨congrArg (AV.int .i64) ?_,M.qt⟩;clear M K;rw[JV]
    first|(simp_all;done)|(simp_all;omega)|(repeat' split)<;>first|(simp_all;done)|(simp_all;omega)|omega
   refine Qc 11 K M ?_;intro _ K;refine Un K (Qg rfl) rfl (fun _ e49 K=>?_) fun _ e49 K=>?_
   ·exact XI
   refine Qc 1 K M ?_;intro _ K;refine pg K rfl rfl (Qd rfl (Qz (M.JE Q7 h3.Jb) (Qf Qr rfl))) fun _ K=>?_;refine Qc 2 K M ?_;intro _ K;refine Un K (Qg rfl) rfl (fun _ e54 K=>?_) fun _ e54 K=>?_
   ·refine Qc 13 K M ?_;refine⟨congrArg (AV.int .i64) ?_,M.qt⟩;clear M K;rw[JV]
    first|(simp_all;done)|(simp_all;omega)|(repeat' split)<;>first|(simp_all;done)|(simp_all;omega)|omega
   exact XI
  exact XI
 refine Qc 4 K M ?_;intro _ K;refine pg K rfl rfl (Qd rfl (Qz (M.JE Q7 h1.Jb) (Qf Qr rfl))) fun _ K=>?_;refine Qc 1 K M ?_;intro _ K;refine pg K rfl rfl (Z0 Yn rfl rfl) fun _ K=>?_;refine Qc 2 K M ?_;intro _ K;refine Qq (K.QH rfl) (fun h11=>?_) (fun h11=>?_)
 ·have hb11:=h11;refine Qc 1 K M ?_;refine⟨congrArg (AV.int .i64) ?_,M.qt⟩;clear M K;rw[JV]
  first|(simp_all;done)|(simp_all;omega)|(repeat' split)<;>first|(simp_all;done)|(simp_all;omega)|omega
 have hb11:=h11;refine Qc 2 K M ?_;intro _ K;refine Un K (Qg rfl) rfl (fun _ e26 K=>?_) fun _ e26 K=>?_
 ·exact XI
 refine Qc 10 K M ?_;intro _ K;refine p1 K (Qd rfl (Qz (M.JE Q7 h3.Jb) (Qf Qr rfl))) fun _ K=>?_;refine Qc 1 K M ?_;intro _ K;refine Un K (Qg rfl) rfl (fun _ e37 K=>?_) fun _ e37 K=>?_
 ·refine Qc 11 K M ?_;intro _ K;refine Un K (Qg rfl) rfl (fun _ e49 K=>?_) fun _ e49 K=>?_
  ·refine Qc 18 K M ?_;refine⟨congrArg (AV.int .i64) ?_,M.qt⟩;clear M K;rw[JV]
   first|(simp_all;done)|(simp_all;omega)|(repeat' split)<;>first|(simp_all;done)|(simp_all;omega)|omega
  exact XI
 exact XI

theorem NL(hf:Qj st)(n s:Nat)(z:Bool)(hs:s<n+2)(hn:n≤20)(h1:Q4 st.h.get c1 0 [iN n])(h3:Q4 st.h.get c3 0 [iZ (n+1:Nat)]): ∃v st',Ev Tryz.prog Q0 175 [iN s,.bool true,.bool false,.bool z,.ptr c1 0 0,.ptr c3 0 0] st v st'∧v=iZ (Jm [112,108,117,115] n s true false z)∧Qt st st':=by
 refine JB Tryz.func175 Tryz.ntmps175 fun T K=>?_;have M:=Mem.start hf;refine Qc 3 K M ?_;intro _ K;refine Un K (Qg rfl) rfl (fun _ e14 K=>?_) fun _ e14 K=>?_
 ·refine Qc 12 K M ?_;intro _ K;refine Un K (Qg rfl) rfl (fun _ e26 K=>?_) fun _ e26 K=>?_
  ·refine Qc 10 K M ?_;intro _ K;refine p1 K (Qd rfl (Qz (M.JE Q7 h3.Jb) (Qf Qr rfl))) fun _ K=>?_;refine Qc 1 K M ?_;intro _ K;refine Un K (Qg rfl) rfl (fun _ e37 K=>?_) fun _ e37 K=>?_
   ·refine Qc 11 K M ?_;intro _ K;refine Un K (Qg rfl) rfl (fun _ e49 K=>?_) fun _ e49 K=>?_
    ·exact XI
    refine Qc 1 K M ?_;intro _ K;refine pg K rfl rfl (Qd rfl (Qz (M.JE Q7 h3.Jb) (Qf Qr rfl))) fun _ K=>?_;refine Qc 2 K M ?_;intro _ K;refine Un K (Qg rfl) rfl (fun _ e54 K=>?_) fun _ e54 K=>?_
    ·exact XI
    refine Qc 13 K M ?_;refine⟨congrArg (AV.int .i64) ?_,M.qt⟩;clear M K;rw[JV]
    first|(simp_all;done)|(simp_all;omega)|(repeat' split)<;>first|(simp_all;done)|(simp_all;omega)|omega
   refine Qc 11 K M ?_;intro _ K;refine Un K (Qg rfl) rfl (fun _ e49 K=>?_) fun _ e49 K=>?_
   ·exact XI
   refine Qc 1 K M ?_;intro _ K;refine pg K rfl rfl (Qd rfl (Qz (M.JE Q7 h3.Jb) (Qf Qr rfl))) fun _ K=>?_;refine Qc 2 K M ?_;intro _ K;refine Un K (Qg rfl) rfl (fun _ e54 K=>?_) fun _ e54 K=>?_
   ·refine Qc 13 K M ?_;refine⟨congrArg (AV.int .i64) ?_,M.qt⟩;clear M K;rw[JV]
    first|(simp_all;done)|(simp_all;omega)|(repeat' split)<;>first|(simp_all;done)|(simp_all;omega)|omega
   exact XI
  exact XI
 refine Qc 4 K M ?_;intro _ K;refine pg K rfl rfl (Qd rfl (Qz (M.JE Q7 h1.Jb) (Qf Qr rfl))) fun _ K=>?_;refine Qc 1 K M ?_;intro _ K;refine pg K rfl rfl (Z0 Yn rfl rfl) fun _ K=>?_;refine Qc 2 K M ?_;intro _ K;refine Qq (K.QH rfl) (fun h11=>?_) (fun h11=>?_)
 ·have hb11:=h11;refine Qc 1 K M ?_;refine⟨congrArg (AV.int .i64) ?_,M.qt⟩;clear M K;rw[JV]
  first|(simp_all;done)|(simp_all;omega)|(repeat' split)<;>first|(simp_all;done)|(simp_all;omega)|omega
 have hb11:=h11;refine Qc 2 K M ?_;intro _ K;refine Un K (Qg rfl) rfl (fun _ e26 K=>?_) fun _ e26 K=>?_
 ·exact XI
 refine Qc 10 K M ?_;intro _ K;refine p1 K (Qd rfl (Qz (M.JE Q7 h3.Jb) (Qf Qr rfl))) fun _ K=>?_;refine Qc 1 K M ?_;intro _ K;refine Un K (Qg rfl) rfl (fun _ e37 K=>?_) fun _ e37 K=>?_
 ·refine Qc 11 K M ?_;intro _ K;refine Un K (Qg rfl) rfl (fun _ e49 K=>?_) fun _ e49 K=>?_
  ·refine Qc 18 K M ?_;refine⟨congrArg (AV.int .i64) ?_,M.qt⟩;clear M K;rw[JV]
   first|(simp_all;done)|(simp_all;omega)|(repeat' split)<;>first|(simp_all;done)|(simp_all;omega)|omega
  exact XI
 exact XI

theorem NM(hf:Qj st)(n s:Nat)(z:Bool)(hs:s<n+2)(hn:n≤20)(h1:Q4 st.h.get c1 0 [iN n])(h3:Q4 st.h.get c3 0 [iZ (n+1:Nat)]): ∃v st',Ev Tryz.prog Q0 175 [iN s,.bool false,.bool true,.bool z,.ptr c1 0 0,.ptr c3 0 0] st v st'∧v=iZ (Jm [112,108,117,115] n s false true z)∧Qt st st':=by
 refine JB Tryz.func175 Tryz.ntmps175 fun T K=>?_;have M:=Mem.start hf;refine Qc 3 K M ?_;intro _ K;refine Un K (Qg rfl) rfl (fun _ e14 K=>?_) fun _ e14 K=>?_
 ·refine Qc 12 K M ?_;intro _ K;refine Un K (Qg rfl) rfl (fun _ e26 K=>?_) fun _ e26 K=>?_
  ·refine Qc 10 K M ?_;intro _ K;refine p1 K (Qd rfl (Qz (M.JE Q7 h3.Jb) (Qf Qr rfl))) fun _ K=>?_;refine Qc 1 K M ?_;intro _ K;refine Un K (Qg rfl) rfl (fun _ e37 K=>?_) fun _ e37 K=>?_
   ·refine Qc 11 K M ?_;intro _ K;refine Un K (Qg rfl) rfl (fun _ e49 K=>?_) fun _ e49 K=>?_
    ·exact XI
    refine Qc 1 K M ?_;intro _ K;refine pg K rfl rfl (Qd rfl (Qz (M.JE Q7 h3.Jb) (Qf Qr rfl))) fun _ K=>?_;refine Qc 2 K M ?_;intro _ K;refine Un K (Qg rfl) rfl (fun _ e54 K=>?_) fun _ e54 K=>?_
    ·exact XI
    refine Qc 6 K M ?_;intro _ K;refine pg K rfl rfl (Qd rfl (Qz (M.JE Q7 h1.Jb) (Qf Qr rfl))) fun _ K=>?_;refine Qc 1 K M ?_;intro _ K;refine pg K rfl rfl (Z0 Yn rfl rfl) fun _ K=>?_;refine Qc 2 K M ?_;intro _ K;refine Qq (K.QH rfl) (fun h46=>?_) (fun h46=>?_)
    ·have hb46:=h46;refine Qc 3 K M ?_;refine⟨congrArg (AV.int .i64) ?_,M.qt⟩;clear M K;rw[JV]
     first|(simp_all;done)|(simp_all;omega)|(repeat' split)<;>first|(simp_all;done)|(simp_all;omega)|omega
    have hb46:=h46;refine Qc 1 K M ?_;refine⟨congrArg (AV.int .i64) ?_,M.qt⟩;clear M K;rw[JV]
    first|(simp_all;done)|(simp_all;omega)|(repeat' split)<;>first|(simp_all;done)|(simp_all;omega)|omega
   refine Qc 11 K M ?_;intro _ K;refine Un K (Qg rfl) rfl (fun _ e49 K=>?_) fun _ e49 K=>?_
   ·exact XI
   refine Qc 1 K M ?_;intro _ K;refine pg K rfl rfl (Qd rfl (Qz (M.JE Q7 h3.Jb) (Qf Qr rfl))) fun _ K=>?_;refine Qc 2 K M ?_;intro _ K;refine Un K (Qg rfl) rfl (fun _ e54 K=>?_) fun _ e54 K=>?_
   ·refine Qc 13 K M ?_;refine⟨congrArg (AV.int .i64) ?_,M.qt⟩;clear M K;rw[JV]
    first|(simp_all;done)|(simp_all;omega)|(repeat' split)<;>first|(simp_all;done)|(simp_all;omega)|omega
   exact XI
  exact XI
 refine Qc 12 K M ?_;intro _ K;refine Un K (Qg rfl) rfl (fun _ e26 K=>?_) fun _ e26 K=>?_
 ·exact XI
 refine Qc 10 K M ?_;intro _ K;refine p1 K (Qd rfl (Qz (M.JE Q7 h3.Jb) (Qf Qr rfl))) fun _ K=>?_;refine Qc 1 K M ?_;intro _ K;refine Un K (Qg rfl) rfl (fun _ e37 K=>?_) fun _ e37 K=>?_
 ·refine Qc 11 K M ?_;intro _ K;refine Un K (Qg rfl) rfl (fun _ e49 K=>?_) fun _ e49 K=>?_
  ·refine Qc 18 K M ?_;refine⟨congrArg (AV.int .i64) ?_,M.qt⟩;clear M K;rw[JV]
   first|(simp_all;done)|(simp_all;omega)|(repeat' split)<;>first|(simp_all;done)|(simp_all;omega)|omega
  exact XI
 exact XI

theorem NN(hf:Qj st)(n s:Nat)(z:Bool)(hs:s<n+2)(hn:n≤20)(h1:Q4 st.h.get c1 0 [iN n])(h3:Q4 st.h.get c3 0 [iZ (n+1:Nat)]): ∃v st',Ev Tryz.prog Q0 175 [iN s,.bool false,.bool false,.bool z,.ptr c1 0 0,.ptr c3 0 0] st v st'∧v=iZ (Jm [112,108,117,115] n s false false z)∧Qt st st':=by
 refine JB Tryz.func175 Tryz.ntmps175 fun T K=>?_;have M:=Mem.start hf;refine Qc 3 K M ?_;intro _ K;refine Un K (Qg rfl) rfl (fun _ e14 K=>?_) fun _ e14 K=>?_
 ·refine Qc 12 K M ?_;intro _ K;refine Un K (Qg rfl) rfl (fun _ e26 K=>?_) fun _ e26 K=>?_
  ·refine Qc 10 K M ?_;intro _ K;refine p1 K (Qd rfl (Qz (M.JE Q7 h3.Jb) (Qf Qr rfl))) fun _ K=>?_;refine Qc 1 K M ?_;intro _ K;refine Un K (Qg rfl) rfl (fun _ e37 K=>?_) fun _ e37 K=>?_
   ·refine Qc 11 K M ?_;intro _ K;refine Un K (Qg rfl) rfl (fun _ e49 K=>?_) fun _ e49 K=>?_
    ·exact XI
    refine Qc 1 K M ?_;intro _ K;refine pg K rfl rfl (Qd rfl (Qz (M.JE Q7 h3.Jb) (Qf Qr rfl))) fun _ K=>?_;refine Qc 2 K M ?_;intro _ K;refine Un K (Qg rfl) rfl (fun _ e54 K=>?_) fun _ e54 K=>?_
    ·exact XI
    refine Qc 6 K M ?_;intro _ K;refine pg K rfl rfl (Qd rfl (Qz (M.JE Q7 h1.Jb) (Qf Qr rfl))) fun _ K=>?_;refine Qc 1 K M ?_;intro _ K;refine pg K rfl rfl (Z0 Yn rfl rfl) fun _ K=>?_;refine Qc 2 K M ?_;intro _ K;refine Qq (K.QH rfl) (fun h46=>?_) (fun h46=>?_)
    ·have hb46:=h46;refine Qc 3 K M ?_;refine⟨congrArg (AV.int .i64) ?_,M.qt⟩;clear M K;rw[JV]
     first|(simp_all;done)|(simp_all;omega)|(repeat' split)<;>first|(simp_all;done)|(simp_all;omega)|omega
    have hb46:=h46;refine Qc 1 K M ?_;refine⟨congrArg (AV.int .i64) ?_,M.qt⟩;clear M K;rw[JV]
    first|(simp_all;done)|(simp_all;omega)|(repeat' split)<;>first|(simp_all;done)|(simp_all;omega)|omega
   refine Qc 11 K M ?_;refine⟨congrArg (AV.int .i64) ?_,M.qt⟩;clear M K;rw[JV]
   first|(simp_all;done)|(simp_all;omega)|(repeat' split)<;>first|(simp_all;done)|(simp_all;omega)|omega
  exact XI
 refine Qc 12 K M ?_;intro _ K;refine Un K (Qg rfl) rfl (fun _ e26 K=>?_) fun _ e26 K=>?_
 ·exact XI
 refine Qc 12 K M ?_;refine⟨congrArg (AV.int .i64) ?_,M.qt⟩;clear M K;rw[JV]
 first|(simp_all;done)|(simp_all;omega)|(repeat' split)<;>first|(simp_all;done)|(simp_all;omega)|omega

theorem DT(hf:Qj st)(n s:Nat)(x y z:Bool)(hs:s<n+2)(hn:n≤20)(h1:Q4 st.h.get c1 0 [.int .i64 (n:Nat)])(h3:Q4 st.h.get c3 0 [.int .i64 (n+1:Nat)]): ∃v st',Ev Tryz.prog Q0 175 [.int .i64 (s:Nat),.bool x,.bool y,.bool z,.ptr c1 0 0,.ptr c3 0 0] st v st'∧v=.int .i64 (Jm [112,108,117,115] n s x y z)∧Qt st st':=by
 cases x
 ·cases y
  ·exact NN hf n s z hs hn h1 h3
  ·exact NM hf n s z hs hn h1 h3
 ·cases y
  ·exact NL hf n s z hs hn h1 h3
  ·exact NK hf n s z hs hn h1 h3

theorem Ox(hf:Qj st)(n s:Nat)(z:Bool)(hs:s<n+2)(hn:n≤20)(h1:Q4 st.h.get c1 0 [iN n])(h3:Q4 st.h.get c3 0 [iZ (n+1:Nat)]): ∃v st',Ev Tryz.prog Q0 176 [iN s,.bool true,.bool true,.bool z,.ptr c3 0 0,.ptr c1 0 0] st v st'∧v=iZ (Jm [110,117,109] n s true true z)∧Qt st st':=by
 refine JB Tryz.func176 Tryz.ntmps176 fun T K=>?_;have M:=Mem.start hf;refine Qc 2 K M ?_;intro _ K;refine p1 K (Qd rfl (Qz (M.JE Q7 h3.Jb) (Qf Qr rfl))) fun _ K=>?_;refine Qc 1 K M ?_;intro _ K;refine Un K (Qg rfl) rfl (fun _ e15 K=>?_) fun _ e15 K=>?_
 ·refine Qc 9 K M ?_;intro _ K;refine p1 K (Qd rfl (Qz (M.JE Q7 h3.Jb) (Qf Qr rfl))) fun _ K=>?_;refine Qc 1 K M ?_;intro _ K;refine Un K (Qg rfl) rfl (fun _ e28 K=>?_) fun _ e28 K=>?_
  ·exact XI
  refine Qc 6 K M ?_;refine⟨congrArg (AV.int .i64) ?_,M.qt⟩;clear M K;rw[UY]
  first|(simp_all;done)|(simp_all;omega)|(repeat' split)<;>first|(simp_all;done)|(simp_all;omega)|omega
 refine Qc 2 K M ?_;intro _ K;refine pg K rfl rfl (Qd rfl (Qz (M.JE Q7 h1.Jb) (Qf Qr rfl))) fun _ K=>?_;refine Qc 1 K M ?_;intro _ K;refine pg K rfl rfl (Z0 Yn rfl rfl) fun _ K=>?_;refine Qc 2 K M ?_;intro _ K;refine Qq (K.QH rfl) (fun h11=>?_) (fun h11=>?_)
 ·have hb11:=h11;refine Qc 3 K M ?_;refine⟨congrArg (AV.int .i64) ?_,M.qt⟩;clear M K;rw[UY]
  first|(simp_all;done)|(simp_all;omega)|(repeat' split)<;>first|(simp_all;done)|(simp_all;omega)|omega
 have hb11:=h11;refine Qc 1 K M ?_;intro _ K;refine p1 K (Qd rfl (Qz (M.JE Q7 h3.Jb) (Qf Qr rfl))) fun _ K=>?_;refine Qc 1 K M ?_;intro _ K;refine Un K (Qg rfl) rfl (fun _ e28 K=>?_) fun _ e28 K=>?_
 ·refine Qc 6 K M ?_;refine⟨congrArg (AV.int .i64) ?_,M.qt⟩;clear M K;rw[UY]
  first|(simp_all;done)|(simp_all;omega)|(repeat' split)<;>first|(simp_all;done)|(simp_all;omega)|omega
 exact XI

theorem Oy(hf:Qj st)(n s:Nat)(z:Bool)(hs:s<n+2)(hn:n≤20)(h1:Q4 st.h.get c1 0 [iN n])(h3:Q4 st.h.get c3 0 [iZ (n+1:Nat)]): ∃v st',Ev Tryz.prog Q0 176 [iN s,.bool true,.bool false,.bool z,.ptr c3 0 0,.ptr c1 0 0] st v st'∧v=iZ (Jm [110,117,109] n s true false z)∧Qt st st':=by
 refine JB Tryz.func176 Tryz.ntmps176 fun T K=>?_;have M:=Mem.start hf;refine Qc 2 K M ?_;intro _ K;refine p1 K (Qd rfl (Qz (M.JE Q7 h3.Jb) (Qf Qr rfl))) fun _ K=>?_;refine Qc 1 K M ?_;intro _ K;refine Un K (Qg rfl) rfl (fun _ e15 K=>?_) fun _ e15 K=>?_
 ·refine Qc 9 K M ?_;intro _ K;refine p1 K (Qd rfl (Qz (M.JE Q7 h3.Jb) (Qf Qr rfl))) fun _ K=>?_;refine Qc 1 K M ?_;intro _ K;refine Un K (Qg rfl) rfl (fun _ e28 K=>?_) fun _ e28 K=>?_
  ·exact XI
  refine Qc 6 K M ?_;refine⟨congrArg (AV.int .i64) ?_,M.qt⟩;clear M K;rw[UY]
  first|(simp_all;done)|(simp_all;omega)|(repeat' split)<;>first|(simp_all;done)|(simp_all;omega)|omega
 refine Qc 2 K M ?_;intro _ K;refine pg K rfl rfl (Qd rfl (Qz (M.JE Q7 h1.Jb) (Qf Qr rfl))) fun _ K=>?_;refine Qc 1 K M ?_;intro _ K;refine pg K rfl rfl (Z0 Yn rfl rfl) fun _ K=>?_;refine Qc 2 K M ?_;intro _ K;refine Qq (K.QH rfl) (fun h11=>?_) (fun h11=>?_)
 ·have hb11:=h11;refine Qc 3 K M ?_;refine⟨congrArg (AV.int .i64) ?_,M.qt⟩;clear M K;rw[UY]
  first|(simp_all;done)|(simp_all;omega)|(repeat' split)<;>first|(simp_all;done)|(simp_all;omega)|omega
 have hb11:=h11;refine Qc 1 K M ?_;intro _ K;refine p1 K (Qd rfl (Qz (M.JE Q7 h3.Jb) (Qf Qr rfl))) fun _ K=>?_;refine Qc 1 K M ?_;intro _ K;refine Un K (Qg rfl) rfl (fun _ e28 K=>?_) fun _ e28 K=>?_
 ·refine Qc 6 K M ?_;refine⟨congrArg (AV.int .i64) ?_,M.qt⟩;clear M K;rw[UY]
  first|(simp_all;done)|(simp_all;omega)|(repeat' split)<;>first|(simp_all;done)|(simp_all;omega)|omega
 exact XI

theorem Oz(hf:Qj st)(n s:Nat)(z:Bool)(hs:s<n+2)(hn:n≤20)(h1:Q4 st.h.get c1 0 [iN n])(h3:Q4 st.h.get c3 0 [iZ (n+1:Nat)]): ∃v st',Ev Tryz.prog Q0 176 [iN s,.bool false,.bool true,.bool z,.ptr c3 0 0,.ptr c1 0 0] st v st'∧v=iZ (Jm [110,117,109] n s false true z)∧Qt st st':=by
 refine JB Tryz.func176 Tryz.ntmps176 fun T K=>?_;have M:=Mem.start hf;refine Qc 2 K M ?_;intro _ K;refine p1 K (Qd rfl (Qz (M.JE Q7 h3.Jb) (Qf Qr rfl))) fun _ K=>?_;refine Qc 1 K M ?_;intro _ K;refine Un K (Qg rfl) rfl (fun _ e15 K=>?_) fun _ e15 K=>?_
 ·refine Qc 9 K M ?_;intro _ K;refine p1 K (Qd rfl (Qz (M.JE Q7 h3.Jb) (Qf Qr rfl))) fun _ K=>?_;refine Qc 1 K M ?_;intro _ K;refine Un K (Qg rfl) rfl (fun _ e28 K=>?_) fun _ e28 K=>?_
  ·exact XI
  refine Qc 5 K M ?_;intro _ K;refine p1 K (Qd rfl (Qz (M.JE Q7 h3.Jb) (Qf Qr rfl))) fun _ K=>?_;refine Qc 1 K M ?_;refine⟨congrArg (AV.int .i64) ?_,M.qt⟩;clear M K;rw[UY]
  first|(simp_all;done)|(simp_all;omega)|(repeat' split)<;>first|(simp_all;done)|(simp_all;omega)|omega
 refine Qc 2 K M ?_;intro _ K;refine pg K rfl rfl (Qd rfl (Qz (M.JE Q7 h1.Jb) (Qf Qr rfl))) fun _ K=>?_;refine Qc 1 K M ?_;intro _ K;refine pg K rfl rfl (Z0 Yn rfl rfl) fun _ K=>?_;refine Qc 2 K M ?_;intro _ K;refine Qq (K.QH rfl) (fun h11=>?_) (fun h11=>?_)
 ·have hb11:=h11;refine Qc 3 K M ?_;refine⟨congrArg (AV.int .i64) ?_,M.qt⟩;clear M K;rw[UY]
  first|(simp_all;done)|(simp_all;omega)|(repeat' split)<;>first|(simp_all;done)|(simp_all;omega)|omega
 have hb11:=h11;refine Qc 1 K M ?_;intro _ K;refine p1 K (Qd rfl (Qz (M.JE Q7 h3.Jb) (Qf Qr rfl))) fun _ K=>?_;refine Qc 1 K M ?_;intro _ K;refine Un K (Qg rfl) rfl (fun _ e28 K=>?_) fun _ e28 K=>?_
 ·refine Qc 6 K M ?_;refine⟨congrArg (AV.int .i64) ?_,M.qt⟩;clear M K;rw[UY]
  first|(simp_all;done)|(simp_all;omega)|(repeat' split)<;>first|(simp_all;done)|(simp_all;omega)|omega
 exact XI

theorem O0(hf:Qj st)(n s:Nat)(z:Bool)(hs:s<n+2)(hn:n≤20)(h1:Q4 st.h.get c1 0 [iN n])(h3:Q4 st.h.get c3 0 [iZ (n+1:Nat)]): ∃v st',Ev Tryz.prog Q0 176 [iN s,.bool false,.bool false,.bool z,.ptr c3 0 0,.ptr c1 0 0] st v st'∧v=iZ (Jm [110,117,109] n s false false z)∧Qt st st':=by
 refine JB Tryz.func176 Tryz.ntmps176 fun T K=>?_;have M:=Mem.start hf;refine Qc 2 K M ?_;intro _ K;refine p1 K (Qd rfl (Qz (M.JE Q7 h3.Jb) (Qf Qr rfl))) fun _ K=>?_;refine Qc 1 K M ?_;intro _ K;refine Un K (Qg rfl) rfl (fun _ e15 K=>?_) fun _ e15 K=>?_
 ·refine Qc 9 K M ?_;intro _ K;refine p1 K (Qd rfl (Qz (M.JE Q7 h3.Jb) (Qf Qr rfl))) fun _ K=>?_;refine Qc 1 K M ?_;intro _ K;refine Un K (Qg rfl) rfl (fun _ e28 K=>?_) fun _ e28 K=>?_
  ·exact XI
  refine Qc 5 K M ?_;intro _ K;refine p1 K (Qd rfl (Qz (M.JE Q7 h3.Jb) (Qf Qr rfl))) fun _ K=>?_;refine Qc 1 K M ?_;refine⟨congrArg (AV.int .i64) ?_,M.qt⟩;clear M K;rw[UY]
  first|(simp_all;done)|(simp_all;omega)|(repeat' split)<;>first|(simp_all;done)|(simp_all;omega)|omega
 refine Qc 2 K M ?_;intro _ K;refine pg K rfl rfl (Qd rfl (Qz (M.JE Q7 h1.Jb) (Qf Qr rfl))) fun _ K=>?_;refine Qc 1 K M ?_;intro _ K;refine pg K rfl rfl (Z0 Yn rfl rfl) fun _ K=>?_;refine Qc 2 K M ?_;intro _ K;refine Qq (K.QH rfl) (fun h11=>?_) (fun h11=>?_)
 ·have hb11:=h11;refine Qc 3 K M ?_;refine⟨congrArg (AV.int .i64) ?_,M.qt⟩;clear M K;rw[UY]
  first|(simp_all;done)|(simp_all;omega)|(repeat' split)<;>first|(simp_all;done)|(simp_all;omega)|omega
 have hb11:=h11;refine Qc 1 K M ?_;intro _ K;refine p1 K (Qd rfl (Qz (M.JE Q7 h3.Jb) (Qf Qr rfl))) fun _ K=>?_;refine Qc 1 K M ?_;intro _ K;refine Un K (Qg rfl) rfl (fun _ e28 K=>?_) fun _ e28 K=>?_
 ·refine Qc 6 K M ?_;refine⟨congrArg (AV.int .i64) ?_,M.qt⟩;clear M K;rw[UY]
  first|(simp_all;done)|(simp_all;omega)|(repeat' split)<;>first|(simp_all;done)|(simp_all;omega)|omega
 exact XI

theorem Rk(hf:Qj st)(n s:Nat)(x y z:Bool)(hs:s<n+2)(hn:n≤20)(h1:Q4 st.h.get c1 0 [.int .i64 (n:Nat)])(h3:Q4 st.h.get c3 0 [.int .i64 (n+1:Nat)]): ∃v st',Ev Tryz.prog Q0 176 [.int .i64 (s:Nat),.bool x,.bool y,.bool z,.ptr c3 0 0,.ptr c1 0 0] st v st'∧v=.int .i64 (Jm [110,117,109] n s x y z)∧Qt st st':=by
 cases x
 ·cases y
  ·exact O0 hf n s z hs hn h1 h3
  ·exact Oz hf n s z hs hn h1 h3
 ·cases y
  ·exact Oy hf n s z hs hn h1 h3
  ·exact Ox hf n s z hs hn h1 h3
end Go.Proofs.YtiknomepbklibaaGreatDoor
