/-
  Size, Depth, IsTerm, IsFormula: the program's answer, the reference's. TreeIs.
-/
import Derived.Test.YtadjjadimlkkgaaGreatDoorLiTrC
set_option linter.unnecessarySimpa false
set_option linter.unusedSimpArgs false
set_option linter.unusedVariables false
section
namespace Go.Proofs.YtadjjadimlkkgaaGreatDoor
open Go Go.RowKit
set_option maxHeartbeats 8000000
set_option maxRecDepth 100000

def Uj(x:Nd)(m:Int):Bool:=decide (min ((XN x:Nat):Int) 2001≤m)&&decide (min ((KP x:Nat):Int) 31≤30)
theorem IP(x:List Nat):Cc (.str x)=true:=rfl
theorem IS(k:IntKind)(x:Int):Cc (.int k x)=true:=rfl
theorem F4(b:Bool):Cc (.bool b)=true:=rfl
theorem R9{o s:List Nat}{z a:Int}{l:List Nd}{st:St}{cs:List AV}(hf:Qx st)(hr:Yq st.h.get (.mk o s z a l) cs): ∃v st',Ev Tryz.prog QT 150 [.agg cs] st v st'∧v=.int .i64 (min ((XN (.mk o s z a l):Nat):Int) 2001)∧Qt st st':=by
 have hr0:=hr;obtain⟨kk,ls,rfl,hK,hb⟩:=hr.Jl;have hln:=hK.ln;have hbn:=hK.UK;refine Q6 rfl Tryz.func150 rfl Tryz.ntmps150 rfl fun T hT=>?_;have K:Jf [(0,_)] T:=(.cons (hT 0) .nil);have M:=Mem.start hf;refine Qo<|Qb ?_;refine QM K M rfl (Qa rfl (Qa rfl (Qa rfl (Qa rfl (Qa hK.cell Qy))))) (by decide) fun c1 _ _ K M=>?_;refine Qg 2 K M ?_;intro _ K;refine oQ K M (Mx _ 2001 _ _ M.fresh (hr0.mono M.rows) (by decide) (by decide)) rfl rfl fun _ _ K M=>?_;refine Qg 1 K M ?_;intro _ K;refine Qf ⟨.inr rfl,_,J4 K rfl,?_⟩;exact⟨rfl,M.qt⟩

theorem RU{o s:List Nat}{z a:Int}{l:List Nd}{st:St}{cs:List AV}(hf:Qx st)(hr:Yq st.h.get (.mk o s z a l) cs): ∃v st',Ev Tryz.prog QT 21 [.agg cs] st v st'∧v=.int .i64 (min ((XN (.mk o s z a l):Nat):Int) 2001)∧Qt st st':=by
 have hr0:=hr;obtain⟨kk,ls,rfl,hK,hb⟩:=hr.Jl;have hln:=hK.ln;have hbn:=hK.UK;refine Q6 rfl Tryz.func21 rfl Tryz.ntmps21 rfl fun T hT=>?_;have K:Jf [(0,_)] T:=(.cons (hT 0) .nil);have M:=Mem.start hf;refine Qo<|Qb ?_;refine QM K M rfl (Qa rfl (Qa rfl (Qa rfl (Qa rfl (Qa hK.cell Qy))))) (by decide) fun c1 _ _ K M=>?_;refine Qg 2 K M ?_;intro _ K;refine oQ K M (PH _ 2001 _ _ M.fresh (hr0.mono M.rows) (by decide) (by decide)) rfl rfl fun _ _ K M=>?_;refine Qg 1 K M ?_;intro _ K;refine Qf ⟨.inr rfl,_,J4 K rfl,?_⟩;exact⟨rfl,M.qt⟩

theorem D6{o s:List Nat}{z a:Int}{l:List Nd}{st:St}{cs:List AV}(hf:Qx st)(hr:Yq st.h.get (.mk o s z a l) cs): ∃v st',Ev Tryz.prog QT 162 [.agg cs] st v st'∧v=.int .i64 (min ((KP (.mk o s z a l):Nat):Int) 31)∧Qt st st':=by
 have hr0:=hr;obtain⟨kk,ls,rfl,hK,hb⟩:=hr.Jl;have hln:=hK.ln;have hbn:=hK.UK;refine Q6 rfl Tryz.func162 rfl Tryz.ntmps162 rfl fun T hT=>?_;have K:Jf [(0,_)] T:=(.cons (hT 0) .nil);have M:=Mem.start hf;refine Qo<|Qb ?_;refine QM K M rfl (Qa rfl (Qa rfl (Qa rfl (Qa rfl (Qa hK.cell Qy))))) (by decide) fun c1 _ _ K M=>?_;refine Qg 2 K M ?_;intro _ K;refine oQ K M (Tw _ 31 _ _ M.fresh (hr0.mono M.rows) (by decide) (by decide)) rfl rfl fun _ _ K M=>?_;refine Qg 1 K M ?_;intro _ K;refine Qf ⟨.inr rfl,_,J4 K rfl,?_⟩;exact⟨rfl,M.qt⟩

theorem DL{o s:List Nat}{z a:Int}{l:List Nd}{st:St}{cs:List AV}(hf:Qx st)(hr:Yq st.h.get (.mk o s z a l) cs): ∃v st',Ev Tryz.prog QT 22 [.agg cs] st v st'∧v=.int .i64 (min ((KP (.mk o s z a l):Nat):Int) 31)∧Qt st st':=by
 have hr0:=hr;obtain⟨kk,ls,rfl,hK,hb⟩:=hr.Jl;have hln:=hK.ln;have hbn:=hK.UK;refine Q6 rfl Tryz.func22 rfl Tryz.ntmps22 rfl fun T hT=>?_;have K:Jf [(0,_)] T:=(.cons (hT 0) .nil);have M:=Mem.start hf;refine Qo<|Qb ?_;refine QM K M rfl (Qa rfl (Qa rfl (Qa rfl (Qa rfl (Qa hK.cell Qy))))) (by decide) fun c1 _ _ K M=>?_;refine Qg 2 K M ?_;intro _ K;refine oQ K M (Tx _ 31 _ _ M.fresh (hr0.mono M.rows) (by decide) (by decide)) rfl rfl fun _ _ K M=>?_;refine Qg 1 K M ?_;intro _ K;refine Qf ⟨.inr rfl,_,J4 K rfl,?_⟩;exact⟨rfl,M.qt⟩

theorem ub{o s:List Nat}{z a:Int}{l:List Nd}{st:St}{cs:List AV}(hf:Qx st)(hr:Yq st.h.get (.mk o s z a l) cs): ∃v st',Ev Tryz.prog QT 103 [.agg cs] st v st'∧v=.bool (Uj (.mk o s z a l) 2000)∧Qt st st':=by
 have hr0:=hr;obtain⟨kk,ls,rfl,hK,hb⟩:=hr.Jl;have hln:=hK.ln;have hbn:=hK.UK;refine Q6 rfl Tryz.func103 rfl Tryz.ntmps103 rfl fun T hT=>?_;have K:Jf [(0,_)] T:=(.cons (hT 0) .nil);have M:=Mem.start hf;refine Qo<|Qb ?_;refine QM K M rfl (Qa rfl (Qa rfl (Qa rfl (Qa rfl (Qa hK.cell Qy))))) (by decide) fun c1 _ _ K M=>?_;refine Qg 2 K M ?_;intro _ K;refine oQ K M (R9 M.fresh (hr0.mono M.rows)) rfl rfl fun _ _ K M=>?_;refine o1 K (BF rfl rfl) rfl fun _ K=>?_;refine oB K (Qc rfl) rfl fun b6 _ e6 K=>?_;cases b6
 ·replace e6:=of_decide_eq_false e6;refine Qg 5 K M ?_;intro _ K;refine Qf ⟨.inr rfl,_,J4 K rfl,?_⟩;refine⟨congrArg AV.bool ?_,M.qt⟩;rw[Uj]
  simp_all<;>(intros;omega)
 replace e6:=of_decide_eq_true e6;refine Qg 1 K M ?_;intro _ K;obtain⟨v8,st8,ev8,rfl,q8⟩:=D6 M.fresh (hr0.mono M.rows);refine og K rfl rfl (Ql rfl ev8) rfl fun _ K=>?_;replace M:=M.quiet q8;refine Qg 3 K M ?_;intro _ K;refine Qf ⟨.inr rfl,_,J4 K rfl,?_⟩;refine⟨congrArg AV.bool ?_,M.qt⟩;rw[Uj]
 simp_all<;>(intros;omega)

theorem Ve{o s:List Nat}{z a:Int}{l:List Nd}{st:St}{cs:List AV}(hf:Qx st)(hr:Yq st.h.get (.mk o s z a l) cs): ∃v st',Ev Tryz.prog QT 59 [.agg cs] st v st'∧v=.bool (Uj (.mk o s z a l) 2000&&QO (.mk o s z a l))∧Qt st st':=by
 have hr0:=hr;obtain⟨kk,ls,rfl,hK,hb⟩:=hr.Jl;have hln:=hK.ln;have hbn:=hK.UK;refine Q6 rfl Tryz.func59 rfl Tryz.ntmps59 rfl fun T hT=>?_;have K:Jf [(0,_)] T:=(.cons (hT 0) .nil);have M:=Mem.start hf;refine Qo<|Qb ?_;refine QM K M rfl (Qa rfl (Qa rfl (Qa rfl (Qa rfl (Qa hK.cell Qy))))) (by decide) fun c1 _ _ K M=>?_;refine Qg 2 K M ?_;intro _ K;refine oQ K M (ub M.fresh (hr0.mono M.rows)) rfl rfl fun _ _ K M=>?_;refine oB K (Qc rfl) rfl fun b5 _ e5 K=>?_;cases b5
 ·refine Qg 4 K M ?_;intro _ K;refine Qf ⟨.inr rfl,_,J4 K rfl,?_⟩;refine⟨congrArg AV.bool ?_,M.qt⟩
  simp_all
 refine Qg 1 K M ?_;intro _ K;obtain⟨v7,st7,ev7,rfl,q7⟩:=NL _ _ _ M.fresh (hr0.mono M.rows);refine og K rfl rfl (Ql rfl ev7) rfl fun _ K=>?_;replace M:=M.quiet q7;refine Qg 2 K M ?_;intro _ K;refine Qf ⟨.inr rfl,_,J4 K rfl,?_⟩;refine⟨congrArg AV.bool ?_,M.qt⟩
 simp_all

end Go.Proofs.YtadjjadimlkkgaaGreatDoor
end
section
namespace Go.Proofs.YtadjjadimlkkgaaGreatDoor
open Go Go.RowKit
set_option maxHeartbeats 8000000
set_option maxRecDepth 100000

def Nd.num:Nd→Int
 |.mk _ _ n _ _=>n
end Go.Proofs.YtadjjadimlkkgaaGreatDoor
end
section
namespace Go.Proofs.YtadjjadimlkkgaaGreatDoor
open Go Go.RowKit
set_option maxHeartbeats 8000000
set_option maxRecDepth 100000

def Kq(l:List (List Nat)):List (List AV):=l.map fun s=>[AV.str s]
theorem Xp(l:List (List Nat)):(Kq l).length=l.length:=by simp[Kq]
theorem CE{l:List (List Nat)}{i:Nat}{s:List Nat}(h:l[i]? =some s):(Kq l)[i]? =some [AV.str s]:=by rw[Kq,List.getElem?_map,h];rfl
theorem CF(a b:List (List Nat)):Kq (a++b)=Kq a++Kq b:=by simp[Kq]
theorem Np(l:List (List Nat)): ∀cs∈Kq l,cs.length=1:=by
 intro cs h;obtain⟨s,_,rfl⟩:=List.mem_map.1 h;rfl
end Go.Proofs.YtadjjadimlkkgaaGreatDoor
end
section
namespace Go.Proofs.YtadjjadimlkkgaaGreatDoor
open Go Go.RowKit

theorem Rx(l:List (List Nat)):(Kq l).flatten=l.map AV.str:=by
 induction l with
 |nil=>rfl
 |cons s l ih=>rw[List.map_cons,←ih];rfl
theorem jR{h:Hp}{c m:Nat}{l:List (List Nat)}{rest:List AV}(r:UI h c m (l.map AV.str++rest))(hb:l.length≤1000000):VK h [] 1 (Kq l) (.sl c m 0 l.length 1):=by
 refine⟨by rw[Xp];rfl,by rw[Xp];omega,rfl,fun i cs hi=>?_,fun c' m' off n z' e=>?_⟩
 ·have hlt:i<l.length:=by
   have:=(List.getElem?_eq_some_iff.1 hi).1;rw[Xp]at this;exact this
  rw[CE (List.getElem?_eq_getElem hlt)]at hi
  injection hi with hi
  subst hi;refine⟨c,m,0,_,by rw[Xp],by simp,r.EJ,rfl,?_⟩;rw[Nat.zero_add,Nat.mul_one,List.drop_append_of_le_length (by rw[List.length_map];omega),List.drop_eq_getElem_cons (by rw[List.length_map];exact hlt)];simp
 ·injection e with e1 e2 e3 e4 e5
  subst e1 e2 e3 e4 e5;exact⟨by simp,_,r.EJ,by simp⟩
end Go.Proofs.YtadjjadimlkkgaaGreatDoor
end
section
namespace Go.Proofs.YtadjjadimlkkgaaGreatDoor
open Go Go.RowKit

def Nd.name:Nd→List Nat
 |.mk _ name _ _ _=>name
end Go.Proofs.YtadjjadimlkkgaaGreatDoor
end
