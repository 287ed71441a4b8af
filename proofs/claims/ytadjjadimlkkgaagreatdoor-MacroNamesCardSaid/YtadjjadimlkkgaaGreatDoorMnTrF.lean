/-
  Size, Depth, IsTerm, IsFormula: the program's answer, the reference's. TreeIs.
-/
import Derived.Test.YtadjjadimlkkgaaGreatDoorMnTrC
set_option linter.unusedSimpArgs false
set_option linter.unusedVariables false
section
namespace Go.Proofs.YtadjjadimlkkgaaGreatDoor
open Go Go.RowKit
set_option maxHeartbeats 8000000
set_option maxRecDepth 100000

def Y8(x:Nd)(m:Int):Bool:=decide (min ((Jz x:Nat):Int) 2001≤m)&&decide (min ((LB x:Nat):Int) 31≤30)
theorem Bz(x:List Nat):Di (.str x)=true:=rfl
theorem B5(k:IntKind)(x:Int):Di (.int k x)=true:=rfl
theorem NI(b:Bool):Di (.bool b)=true:=rfl
theorem Gv{o s:List Nat}{z a:Int}{l:List Nd}{st:St}{cs:List AV}(hf:Qu st)(hr:UN st.h.get (.mk o s z a l) cs): ∃v st',Ev Tryz.prog QU 150 [.agg cs] st v st'∧v=.int .i64 (min ((Jz (.mk o s z a l):Nat):Int) 2001)∧Qt st st':=by
 have hr0:=hr;obtain⟨kk,ls,rfl,hK,hb⟩:=hr.QJ;have hln:=hK.ln;have hbn:=hK.Uj;refine QE rfl Tryz.func150 rfl Tryz.ntmps150 rfl fun T hT=>?_;have K:QT [(0,_)] T:=(.cons (hT 0) .nil);have M:=Mem.start hf;refine Qn<|Qb ?_;refine QO K M rfl (Qa rfl (Qa rfl (Qa rfl (Qa rfl (Qa hK.cell Qp))))) (by decide) fun c1 _ _ K M=>?_;refine Qf 2 K M ?_;intro _ K;refine oQ K M (qU _ 2001 _ _ M.fresh (hr0.mono M.rows) (by decide) (by decide)) rfl rfl fun _ _ K M=>?_;refine Qf 1 K M ?_;intro _ K;refine Qe ⟨.inr rfl,_,J5 K rfl,?_⟩;exact⟨rfl,M.qt⟩

theorem GH{o s:List Nat}{z a:Int}{l:List Nd}{st:St}{cs:List AV}(hf:Qu st)(hr:UN st.h.get (.mk o s z a l) cs): ∃v st',Ev Tryz.prog QU 21 [.agg cs] st v st'∧v=.int .i64 (min ((Jz (.mk o s z a l):Nat):Int) 2001)∧Qt st st':=by
 have hr0:=hr;obtain⟨kk,ls,rfl,hK,hb⟩:=hr.QJ;have hln:=hK.ln;have hbn:=hK.Uj;refine QE rfl Tryz.func21 rfl Tryz.ntmps21 rfl fun T hT=>?_;have K:QT [(0,_)] T:=(.cons (hT 0) .nil);have M:=Mem.start hf;refine Qn<|Qb ?_;refine QO K M rfl (Qa rfl (Qa rfl (Qa rfl (Qa rfl (Qa hK.cell Qp))))) (by decide) fun c1 _ _ K M=>?_;refine Qf 2 K M ?_;intro _ K;refine oQ K M (RI _ 2001 _ _ M.fresh (hr0.mono M.rows) (by decide) (by decide)) rfl rfl fun _ _ K M=>?_;refine Qf 1 K M ?_;intro _ K;refine Qe ⟨.inr rfl,_,J5 K rfl,?_⟩;exact⟨rfl,M.qt⟩

theorem PB{o s:List Nat}{z a:Int}{l:List Nd}{st:St}{cs:List AV}(hf:Qu st)(hr:UN st.h.get (.mk o s z a l) cs): ∃v st',Ev Tryz.prog QU 162 [.agg cs] st v st'∧v=.int .i64 (min ((LB (.mk o s z a l):Nat):Int) 31)∧Qt st st':=by
 have hr0:=hr;obtain⟨kk,ls,rfl,hK,hb⟩:=hr.QJ;have hln:=hK.ln;have hbn:=hK.Uj;refine QE rfl Tryz.func162 rfl Tryz.ntmps162 rfl fun T hT=>?_;have K:QT [(0,_)] T:=(.cons (hT 0) .nil);have M:=Mem.start hf;refine Qn<|Qb ?_;refine QO K M rfl (Qa rfl (Qa rfl (Qa rfl (Qa rfl (Qa hK.cell Qp))))) (by decide) fun c1 _ _ K M=>?_;refine Qf 2 K M ?_;intro _ K;refine oQ K M (MU _ 31 _ _ M.fresh (hr0.mono M.rows) (by decide) (by decide)) rfl rfl fun _ _ K M=>?_;refine Qf 1 K M ?_;intro _ K;refine Qe ⟨.inr rfl,_,J5 K rfl,?_⟩;exact⟨rfl,M.qt⟩

theorem Ng{o s:List Nat}{z a:Int}{l:List Nd}{st:St}{cs:List AV}(hf:Qu st)(hr:UN st.h.get (.mk o s z a l) cs): ∃v st',Ev Tryz.prog QU 22 [.agg cs] st v st'∧v=.int .i64 (min ((LB (.mk o s z a l):Nat):Int) 31)∧Qt st st':=by
 have hr0:=hr;obtain⟨kk,ls,rfl,hK,hb⟩:=hr.QJ;have hln:=hK.ln;have hbn:=hK.Uj;refine QE rfl Tryz.func22 rfl Tryz.ntmps22 rfl fun T hT=>?_;have K:QT [(0,_)] T:=(.cons (hT 0) .nil);have M:=Mem.start hf;refine Qn<|Qb ?_;refine QO K M rfl (Qa rfl (Qa rfl (Qa rfl (Qa rfl (Qa hK.cell Qp))))) (by decide) fun c1 _ _ K M=>?_;refine Qf 2 K M ?_;intro _ K;refine oQ K M (MV _ 31 _ _ M.fresh (hr0.mono M.rows) (by decide) (by decide)) rfl rfl fun _ _ K M=>?_;refine Qf 1 K M ?_;intro _ K;refine Qe ⟨.inr rfl,_,J5 K rfl,?_⟩;exact⟨rfl,M.qt⟩

theorem yG{o s:List Nat}{z a:Int}{l:List Nd}{st:St}{cs:List AV}(hf:Qu st)(hr:UN st.h.get (.mk o s z a l) cs): ∃v st',Ev Tryz.prog QU 103 [.agg cs] st v st'∧v=.bool (Y8 (.mk o s z a l) 2000)∧Qt st st':=by
 have hr0:=hr;obtain⟨kk,ls,rfl,hK,hb⟩:=hr.QJ;have hln:=hK.ln;have hbn:=hK.Uj;refine QE rfl Tryz.func103 rfl Tryz.ntmps103 rfl fun T hT=>?_;have K:QT [(0,_)] T:=(.cons (hT 0) .nil);have M:=Mem.start hf;refine Qn<|Qb ?_;refine QO K M rfl (Qa rfl (Qa rfl (Qa rfl (Qa rfl (Qa hK.cell Qp))))) (by decide) fun c1 _ _ K M=>?_;refine Qf 2 K M ?_;intro _ K;refine oQ K M (Gv M.fresh (hr0.mono M.rows)) rfl rfl fun _ _ K M=>?_;refine o1 K (CM rfl rfl) rfl fun _ K=>?_;refine oB K (Qd rfl) rfl fun b6 _ e6 K=>?_;cases b6
 ·replace e6:=of_decide_eq_false e6;refine Qf 5 K M ?_;intro _ K;refine Qe ⟨.inr rfl,_,J5 K rfl,?_⟩;refine⟨congrArg AV.bool ?_,M.qt⟩;rw[Y8]
  simp_all<;>(intros;omega)
 replace e6:=of_decide_eq_true e6;refine Qf 1 K M ?_;intro _ K;obtain⟨v8,st8,ev8,rfl,q8⟩:=PB M.fresh (hr0.mono M.rows);refine og K rfl rfl (Ql rfl ev8) rfl fun _ K=>?_;replace M:=M.quiet q8;refine Qf 3 K M ?_;intro _ K;refine Qe ⟨.inr rfl,_,J5 K rfl,?_⟩;refine⟨congrArg AV.bool ?_,M.qt⟩;rw[Y8]
 simp_all<;>(intros;omega)

theorem Aq{o s:List Nat}{z a:Int}{l:List Nd}{st:St}{cs:List AV}(hf:Qu st)(hr:UN st.h.get (.mk o s z a l) cs): ∃v st',Ev Tryz.prog QU 59 [.agg cs] st v st'∧v=.bool (Y8 (.mk o s z a l) 2000&&QW (.mk o s z a l))∧Qt st st':=by
 have hr0:=hr;obtain⟨kk,ls,rfl,hK,hb⟩:=hr.QJ;have hln:=hK.ln;have hbn:=hK.Uj;refine QE rfl Tryz.func59 rfl Tryz.ntmps59 rfl fun T hT=>?_;have K:QT [(0,_)] T:=(.cons (hT 0) .nil);have M:=Mem.start hf;refine Qn<|Qb ?_;refine QO K M rfl (Qa rfl (Qa rfl (Qa rfl (Qa rfl (Qa hK.cell Qp))))) (by decide) fun c1 _ _ K M=>?_;refine Qf 2 K M ?_;intro _ K;refine oQ K M (yG M.fresh (hr0.mono M.rows)) rfl rfl fun _ _ K M=>?_;refine oB K (Qd rfl) rfl fun b5 _ e5 K=>?_;cases b5
 ·refine Qf 4 K M ?_;intro _ K;refine Qe ⟨.inr rfl,_,J5 K rfl,?_⟩;refine⟨congrArg AV.bool ?_,M.qt⟩
  simp_all
 refine Qf 1 K M ?_;intro _ K;obtain⟨v7,st7,ev7,rfl,q7⟩:=OA _ _ _ M.fresh (hr0.mono M.rows);refine og K rfl rfl (Ql rfl ev7) rfl fun _ K=>?_;replace M:=M.quiet q7;refine Qf 2 K M ?_;intro _ K;refine Qe ⟨.inr rfl,_,J5 K rfl,?_⟩;refine⟨congrArg AV.bool ?_,M.qt⟩
 simp_all

end Go.Proofs.YtadjjadimlkkgaaGreatDoor
end
section
namespace Go.Proofs.YtadjjadimlkkgaaGreatDoor
open Go Go.RowKit
set_option maxHeartbeats 8000000
set_option maxRecDepth 100000

def Nd.num:Nd→Int
 |.mk _ _ n _ _=>n
def FB(o s:List Nat)(z a:Int)(kk:AV):List AV→List AV
 |[.str ok,.str _,.int _ zk,.int _ _,kkk]=>if ok=YA then [.str YA,.str [],.int .i64 (z+zk),.int .i64 a,.nils]else if ok=JZ then [.str o,.str s,.int .i64 (z+zk),.int .i64 a,kkk]else [.str o,.str s,.int .i64 z,.int .i64 a,kk]
 |_=>[.str o,.str s,.int .i64 z,.int .i64 a,kk]
theorem jr{o s:List Nat}{z a:Int}{l:List Nd}{kk:AV}{ls:List (List AV)}{st:St}(hf:Qu st)(hK:Vz st.h.get l kk ls)(hz:0≤z∧z≤100000)(hkb: ∀k,l[0]? =some k→0≤k.num∧k.num≤100000): ∃v st',Ev Tryz.prog QU 244 [.agg [.str o,.str s,.int .i64 z,.int .i64 a,kk]] st v st'∧v=.agg (if o=JZ∧((l.length:Nat):Int)=1 then FB o s z a kk (ls[0]?.getD [])else [.str o,.str s,.int .i64 z,.int .i64 a,kk])∧Qt st st':=by
 have hln:=hK.ln;have hbn:=hK.Uj;refine QE rfl Tryz.func244 rfl Tryz.ntmps244 rfl fun T hT=>?_;have K:QT [(0,_)] T:=(.cons (hT 0) .nil);have M:=Mem.start hf;refine Qn<|Qb ?_;refine QO K M rfl (Qa rfl (Qa rfl (Qa rfl (Qa rfl (Qa hK.cell Qp))))) (by decide) fun c1 _ _ K M=>?_;refine au 3 K M ?_;intro c2 _ _ K _ M;refine o1 K (E3 (b:=[112,108,117,115]) rfl rfl) rfl fun _ K=>?_;refine oB K (Qd rfl) rfl fun b7 _ e7 K=>?_;cases b7
 ·replace e7:(o=[112,108,117,115]):=by simpa using e7
  refine Qf 2 K M ?_;intro _ K;refine og K rfl rfl (QL Q7 rfl rfl hK.len) rfl fun _ K=>?_;refine Qf 2 K M ?_;intro _ K;refine P4 K rfl (fun h12=>?_) fun h12=>?_
  ·refine Qf 1 K M ?_;intro _ K;refine Q5 (k:=0) K M rfl rfl rfl Qq rfl (Qa rfl (Qa rfl (Qa rfl (Qa rfl (Qa hK.cell Qp))))) rfl fun _ M=>?_;refine Qy ?_;show W _ _ _ _ _ _ _;refine Qe ⟨.inr rfl,_,Iy 0 K M rfl rfl rfl,?_⟩;refine⟨congrArg AV.agg ?_,M.qt⟩
   simp_all [FB,JZ,YA]<;>first|done|rfl
  refine Qf 2 K M ?_;intro _ K;obtain⟨⟨o16,s16,z16,a16,l16⟩,hi16⟩: ∃k,l[0]? =some k:=⟨_,List.getElem?_eq_getElem (by first|omega|(have:=Jj (m:=1) (l:=l) (by assumption);omega)|(have:=Jj (m:=2) (l:=l) (by assumption);omega)|(have:=has_len (m:=1) (l:=l) (by assumption);omega))⟩;have hm16:=J6 hi16;obtain⟨_,hc16,hn16⟩:=hK.at_ _ _ hi16;have hp16:=hn16;obtain⟨kk16,ls16,rfl,hK16,hb16⟩:=hp16.QJ;have hnb16:0≤z16∧z16≤100000:=hkb _ hi16;obtain⟨x16,m16,f16,q16,_,la16,lo16,lp16⟩:=(hK.r.mem M (by simp)).load (i:=0) (cs:=_) hc16;refine o1 K (Qj (j:=0) QH (congrArg some q16) rfl (by rw[hK.ln];first|omega|(have:=Jj (m:=1) (l:=l) (by assumption);omega)|(have:=Jj (m:=2) (l:=l) (by assumption);omega)|(have:=has_len (m:=1) (l:=l) (by assumption);omega))) rfl fun _ K=>o1 K (Qr rfl (la16 _ Qs)) rfl fun _ K=>?_;refine Ul K M Ja (by decide) fun c3 _ _ K M=>?_;refine Q5 (k:=0) K M rfl rfl rfl Qq rfl (Qa rfl (Qa rfl (Qa rfl (Qa rfl (Qa hK16.cell Qp))))) rfl fun _ M=>?_;refine Qf 2 K M ?_;intro _ K;refine o1 K (QC (b:=[110,117,109]) rfl rfl) rfl fun _ K=>?_;refine Qf 1 K M ?_;intro _ K;refine Xo K rfl (fun h20=>?_) fun h20=>?_
  ·refine Qf 4 K M ?_;intro _ K;refine o1 K (Jf rfl rfl (by omega) (by omega)) rfl fun _ K=>?_;refine Qf 2 K M ?_;intro _ K;refine o1 K (UF UE rfl rfl) rfl fun _ K=>?_;refine au 1 K M ?_;intro _ _ K _ M;refine Qe ⟨.inr rfl,_,Iy 1 K M rfl rfl rfl,?_⟩;refine⟨congrArg AV.agg ?_,M.qt⟩
   simp_all [FB,JZ,YA]<;>first|done|rfl
  refine Qn<|Qb<|o1 K (QC (b:=[112,108,117,115]) rfl rfl) rfl fun _ K=>?_;refine Qf 1 K M ?_;intro _ K;refine Xo K rfl (fun h30=>?_) fun h30=>?_
  ·refine Qf 4 K M ?_;intro _ K;refine o1 K (Jf rfl rfl (by omega) (by omega)) rfl fun _ K=>?_;refine au 5 K M ?_;intro _ _ K _ M;refine EV (k:=2) K M rfl rfl rfl UI (hK16.cell) rfl fun _ M=>?_;refine Qf 1 K M ?_;intro _ K;refine Q5 (k:=1) K M rfl rfl rfl Qq rfl (Qa rfl (Qa rfl (Qa rfl (Qa rfl (Qa hK16.cell Qp))))) rfl fun _ M=>?_;refine Qy ?_;show W _ _ _ _ _ _ _;refine Qe ⟨.inr rfl,_,Iy 1 K M rfl rfl rfl,?_⟩;refine⟨congrArg AV.agg ?_,M.qt⟩
   simp_all [FB,JZ,YA]<;>first|done|rfl
  refine Qf 1 K M ?_;intro _ K;refine Q5 (k:=1) K M rfl rfl rfl Qq rfl (Qa rfl (Qa rfl (Qa rfl (Qa rfl (Qa hK.cell Qp))))) rfl fun _ M=>?_;refine Qy ?_;show W _ _ _ _ _ _ _;refine Qe ⟨.inr rfl,_,Iy 1 K M rfl rfl rfl,?_⟩;refine⟨congrArg AV.agg ?_,M.qt⟩
  simp_all [FB,JZ,YA]<;>first|done|rfl
 replace e7: ¬(o=[112,108,117,115]):=by simpa using e7
 refine Qf 5 K M ?_;intro _ K;refine Qm (t:=true) (K.QF rfl) (fun _=>?_) (fun h=>by cases h);refine Qf 1 K M ?_;intro _ K;refine Q5 (k:=0) K M rfl rfl rfl Qq rfl (Qa rfl (Qa rfl (Qa rfl (Qa rfl (Qa hK.cell Qp))))) rfl fun _ M=>?_;refine Qy ?_;show W _ _ _ _ _ _ _;refine Qe ⟨.inr rfl,_,Iy 0 K M rfl rfl rfl,?_⟩;refine⟨congrArg AV.agg ?_,M.qt⟩
 simp_all [FB,JZ,YA]<;>first|done|rfl

theorem yS:Bytes [110,117,109]∧Bytes []:=⟨by unfold Bytes;decide,by unfold Bytes;decide⟩
end Go.Proofs.YtadjjadimlkkgaaGreatDoor
end
