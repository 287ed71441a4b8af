/-
  Lowering, plainly: the names in scope stay what they were.
-/
import Derived.Test.YtadjjadimlkkgaaGreatDoorLiLwP
namespace Go.Proofs.YtadjjadimlkkgaaGreatDoor
open Go Go.RowKit
set_option linter.unusedVariables false
set_option linter.unusedSectionVars false

theorem Da: ∀(l:List Int) (t:LT),∃r,(Zg l t).2.1.ns=t.2.1.ns++r
 |[],t=>⟨[],(List.append_nil _).symm⟩
 |k::l,t=>by
  obtain⟨r,h⟩:=Da l (Wk t.2.1 t.2.2 fun v=>⟨v,[117,110,105,111,110],t.1,k,v,0⟩);refine⟨[[]]++r,?_⟩;rw[Zg,h];simp[Wk,Qv]
mutual
theorem Nu: ∀(x:Nd) (S:LS) (acc:List Nx),∃r,(Qm x S acc).2.1.ns=S.ns++r
 |.mk o s z a l,S,acc=>by
  obtain⟨r,h⟩:=Ar l S acc;rw[Qm];generalize QH l S acc=t at h;obtain⟨ks,S1,nx1⟩:=t;simp only at h
  split
  ·exact⟨[],(List.append_nil _).symm⟩
  split
  ·exact⟨[[]],rfl⟩
  split
  ·exact⟨r++[[]],by simp[Wk,Qv,QW,h]⟩
  split
  ·cases ks with
   |nil=>exact⟨r++[[]],by simp[RM,Wk,Qv,h]⟩
   |cons k ks=>
    obtain⟨r2,h2⟩:=Da ks (k,S1,nx1);exact⟨r++r2,by rw[RM,h2];simp[h]⟩
  ·exact⟨r++[[]],by simp[Wk,Qv,h]⟩
theorem Ar: ∀(l:List Nd) (S:LS) (acc:List Nx),∃r,(QH l S acc).2.1.ns=S.ns++r
 |[],S,acc=>⟨[],by rw[QH];simp⟩
 |k::l,S,acc=>by
  obtain⟨r1,h1⟩:=Nu k S acc;obtain⟨r2,h2⟩:=Ar l (Qm k S acc).2.1 (Qm k S acc).2.2;exact⟨r1++r2,by rw[QH,h2,h1];simp⟩
end
theorem Ld(x:Nd)(S:LS)(acc:List Nx):S.ns.length≤(Qm x S acc).2.1.ns.length:=by
 obtain⟨r,h⟩:=Nu x S acc;rw[h,List.length_append];omega
theorem Ft(s:List Nat)(z:Int)(S:LS):(QN s z S).ns=S.ns++[s]:=by
 unfold QN
 split
 ·show((S.ns++[s])++[[]]).take (S.ns++[s]).length=_;exact List.take_left
 ·rfl
theorem EK(s:List Nat)(z:Int)(S:LS):(QN s z S).ns.length=S.ns.length+1:=by rw[Ft];simp
mutual
theorem Y1: ∀(x:Nd) (S:LS),(Qh x S).2.ns=S.ns
 |.mk o s z a l,S=>by
  have h:=IH l S;have hq:=IH l (QN s z S);rw[Ft]at hq;rw[Qh]
  by_cases h0:S.lg=true
  ·rw[if_pos h0]
  rw[if_neg h0]
  by_cases h1:o=[116,114,117,101]
  ·rw[if_pos h1]
  rw[if_neg h1]
  by_cases h2:o=[102,97,108,115,101]
  ·rw[if_pos h2]
  rw[if_neg h2]
  by_cases h3:o=[110,111,116]
  ·rw[if_pos h3];exact h
  rw[if_neg h3]
  by_cases h4:o=[97,110,100]
  ·rw[if_pos h4];exact h
  rw[if_neg h4]
  by_cases h5:o=[111,114]
  ·rw[if_pos h5];exact h
  rw[if_neg h5]
  by_cases h6:o=[105,109,112]
  ·rw[if_pos h6];exact h
  rw[if_neg h6]
  by_cases h7:o=[105,102,102]
  ·rw[if_pos h7];exact h
  rw[if_neg h7]
  by_cases h8:o=[101,120]
  ·rw[if_pos h8];show(QQ l (QN s z S)).2.ns.take S.ns.length=_;rw[hq];exact List.take_left
  rw[if_neg h8]
  by_cases h9:o=[97,108,108]
  ·rw[if_pos h9];show(QQ l (QN s z S)).2.ns.take S.ns.length=_;rw[hq];exact List.take_left
  rw[if_neg h9]
  by_cases h10:o=[105,115]
  ·rw[if_pos h10]
  rw[if_neg h10];obtain⟨r,h⟩:=Ar l S [];show(QH l S []).2.1.ns.take S.ns.length=_;rw[h];exact List.take_left
theorem IH: ∀(l:List Nd) (S:LS),(QQ l S).2.ns=S.ns
 |[],S=>by rw[QQ]
 |k::l,S=>by rw[QQ,IH l,Y1 k]
end
theorem TN{o:List Nat}{l:List Nd}{k j:Nd}{S:LS}(hl:l.length=2)(h0:l[0]? =some k)(h1:l[1]? =some j):Wo o l S=(Ew (Qm j (Qm k S []).2.1 (Qm k S []).2.2).2.2 (Zd o (Qm k S []).1 (Qm j (Qm k S []).2.1 (Qm k S []).2.2).1),UR (Qm j (Qm k S []).2.1 (Qm k S []).2.2).2.1 S.ns.length):=by
 match l,hl,h0,h1 with
 |[x,y],_,h0,h1=>
  injection h0 with h0
  injection h1 with h1
  subst h0 h1;rw[Wo,QH,QH,QH];rfl
theorem V9{l:List Nd}{k:Nd}{S:LS}(hl:l.length=1)(h0:l[0]? =some k):QQ l S=([(Qh k S).1],(Qh k S).2):=by
 match l,hl,h0 with
 |[x],_,h0=>
  injection h0 with h0
  subst h0;rw[QQ,QQ]
theorem El{l:List Nd}{k j:Nd}{S:LS}(hl:l.length=2)(h0:l[0]? =some k)(h1:l[1]? =some j):QQ l S=([(Qh k S).1,(Qh j (Qh k S).2).1],(Qh j (Qh k S).2).2):=by
 match l,hl,h0,h1 with
 |[x,y],_,h0,h1=>
  injection h0 with h0
  injection h1 with h1
  subst h0 h1;rw[QQ,QQ,QQ]
theorem jX{l:List Nx}{i:Nat}{y:Nx}(h:l[i]? =some y):(l.map Nx.cells)[i]? =some [.int .i64 y.v,.str y.o,.int .i64 y.a,.int .i64 y.b,.int .i64 y.c,.int .i64 y.n,.nils]:=by rw[List.getElem?_map,h];rfl
theorem LJ{o s:List Nat}{z a:Int}{l:List Nd}(h:QO (.mk o s z a l)=true)(hc: ¬o=[99,97,108,108]):
  (o=[110,111,116]→l.length=1∧ ∀k∈l,QO k=true)∧
  (o=[97,110,100]∨o=[111,114]∨o=[105,109,112]∨o=[105,102,102]→l.length=2∧ ∀k∈l,QO k=true)∧
  (o=[101,120]∨o=[97,108,108]→l.length=1∧(0≤z∧z<3)∧ ∀k∈l,QO k=true)∧
  (¬o=[116,114,117,101]→ ¬o=[102,97,108,115,101]→ ¬o=[110,111,116]→ ¬o=[97,110,100]→ ¬o=[111,114]→ ¬o=[105,109,112]→ ¬o=[105,102,102]→ ¬o=[101,120]→ ¬o=[97,108,108]→ ¬o=[105,115]→l.length=2∧(∀k∈l,QJ k=true)∧oneOf o [[101,113],[110,101],[108,116],[108,101],[105,110],[110,111,116,105,110],[115,117,98]]=true):=by
 rw[J8]at h
 by_cases h1:o=[116,114,117,101]∨o=[102,97,108,115,101]
 ·refine⟨fun e=>?_,fun e=>?_,fun e=>?_,fun e1 e2=>?_⟩
  ·subst e;exact absurd h1 (by decide)
  ·rcases e with e|e|e|e<;>(subst e;exact absurd h1 (by decide))
  ·rcases e with e|e<;>(subst e;exact absurd h1 (by decide))
  ·exact absurd h1 (by simp[e1,e2])
 have g1:oneOf o [[116,114,117,101],[102,97,108,115,101]]=false:=by
  unfold oneOf;simp only[List.any_cons,List.any_nil,Bool.or_false,Bool.or_eq_false_iff,decide_eq_false_iff_not];exact⟨fun e=>h1 (.inl e),fun e=>h1 (.inr e)⟩
 rw[if_neg (by rw[g1];decide)]at h
 by_cases h2:o=[110,111,116]
 ·subst h2;rw[if_pos rfl]at h;simp only[Bool.and_eq_true,Jh,decide_eq_true_eq,List.all_eq_true]at h;exact⟨fun _=>⟨by omega,h.2⟩,fun e=>absurd e (by decide),fun e=>absurd e (by decide),fun _ _ e=>absurd rfl e⟩
 rw[if_neg h2]at h
 by_cases h3:oneOf o [[97,110,100],[111,114],[105,109,112],[105,102,102]]=true
 ·rw[if_pos h3]at h;simp only[Bool.and_eq_true,Jh,decide_eq_true_eq,List.all_eq_true]at h;refine⟨fun e=>absurd e h2,fun _=>⟨by omega,h.2⟩,fun e=>?_,fun _ _ _ e1 e2 e3 e4=>?_⟩
  ·rcases e with e|e<;>(subst e;exact absurd h3 (by decide))
  ·unfold oneOf at h3;simp[e1,e2,e3,e4]at h3
 rw[if_neg h3]at h
 have n3: ¬(o=[97,110,100]∨o=[111,114]∨o=[105,109,112]∨o=[105,102,102]):=fun e=>by
  rcases e with e|e|e|e<;>(subst e;exact h3 (by decide))
 by_cases h4:oneOf o [[101,120],[97,108,108]]=true
 ·rw[if_pos h4]at h;simp only[Bool.and_eq_true,decide_eq_true_eq,List.all_eq_true]at h;refine⟨fun e=>absurd e h2,fun e=>absurd e n3,fun _=>⟨by omega,⟨h.2.1,h.2.2.1⟩,h.2.2.2.2⟩,fun _ _ _ _ _ _ _ e1 e2=>?_⟩;unfold oneOf at h4;simp[e1,e2]at h4
 rw[if_neg h4]at h
 have n4: ¬(o=[101,120]∨o=[97,108,108]):=fun e=>by
  rcases e with e|e<;>(subst e;exact h4 (by decide))
 refine⟨fun e=>absurd e h2,fun e=>absurd e n3,fun e=>absurd e n4,fun _ _ _ _ _ _ _ _ _ e=>?_⟩;rw[if_neg e]at h
 by_cases h5:oneOf o [[101,113],[110,101],[108,116],[108,101],[105,110],[110,111,116,105,110],[115,117,98]]=true
 ·rw[if_pos h5]at h;simp only[Bool.and_eq_true,Jh,decide_eq_true_eq,List.all_eq_true]at h;exact⟨by omega,h.2,h5⟩
 ·rw[if_neg h5,if_neg hc]at h;cases h
end Go.Proofs.YtadjjadimlkkgaaGreatDoor
