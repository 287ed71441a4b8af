/-
  A name's order in a scope.
-/
import Derived.Test.YtadjjadimlkkgaaGreatDoorKtRng
namespace Go.Proofs.YtadjjadimlkkgaaGreatDoor
open Go Go.RowKit
set_option maxHeartbeats 8000000
set_option linter.unusedVariables false
set_option linter.unusedSimpArgs false
set_option linter.unnecessarySimpa false
set_option maxRecDepth 100000

theorem Lu(l:List Dc)(s:List Nat):U8 (l.take l.length) s=U8 l s:=by rw[List.take_length]
theorem Kd{l:List Dc}{i:Nat}{d:Dc}(h:l[i-1]? =some d)(hp:0<i)(s:List Nat):U8 (l.take i) s=if d.name=s then d.order else U8 (l.take (i-1)) s:=by
 have h1:=AF h s
 rwa [show i-1+1=i by omega]at h1
theorem GL{l:List Dc}{i:Nat}(h:i=0)(s:List Nat):U8 (l.take i) s= -1:=by subst h;rfl

theorem Rz{st:St}(hf:Q3 st){kd:AV}(hc:JD kd=true): ∃v st',Ev Tryz.prog Jg 144 [kd] st v st'∧ ∃c,v=.fn 195 [] [.ptr c 0 0]∧Qt st st'∧JS st'.h.get c 0 [kd]∧st.n≤c:=by
 refine QG rfl Tryz.func144 rfl Tryz.ntmps144 rfl fun T hT=>?_;have K:Jk [(0,_)] T:=(.cons (hT 0) .nil);have M:=Mem.start hf;refine Qw<|Qi ?_;refine JL K M rfl (LV hc) (by decide) fun c1 _ _ K M=>?_;replace M:=Mem.cast (M':=[(c1,0,[kd])]) M (congrArg (fun q=>(c1,0,q)::[]) (Wo (hc)));refine Qc 1 K M ?_;intro _ K;refine o1 K (KB rfl rfl) rfl fun _ K=>?_;refine Qc 1 K M ?_;intro _ K;refine Qd ⟨.inr rfl,_,J7 K rfl,?_⟩;exact⟨_,rfl,M.qt,M.Qr (k:=0) rfl,(M.own c1 0 [kd] (by simp)).resolve_right (by simp)⟩

theorem Ls{st:St}(hf:Q3 st){sc:List Dc}{kd:AV}{ld:List (List AV)}(hD:Yo st.h.get sc kd ld)(nm:List Nat): ∃v st',Ev Tryz.prog Jg 90 [kd,.str nm] st v st'∧v=.int .i64 (U8 sc nm)∧Qt st st':=by
 have hln:=hD.ln;have hbn:=hD.Yx;refine QG rfl Tryz.func90 rfl Tryz.ntmps90 rfl fun T hT=>?_;have K:Jk [(0,_),(1,_)] T:=(.cons (hT 0) (.cons (hT 1) .nil));have M:=Mem.start hf;refine Qw<|Qi ?_;refine JL K M rfl rfl (by decide) fun c3 _ _ K M=>?_;refine au 2 K M ?_;intro c4 _ _ K _ M;obtain⟨v8,st8,ev8,c8,rfl,q8,r8,l8⟩:=Rz M.fresh hD.cell;refine o1 K (Qg rfl ev8) rfl fun _ K=>?_;replace M:=M.Z0 q8 r8 l8;refine Q5 ?_;show W _ _ _ _ _ _ _;refine UN ?_;have K9:=K;refine RC K rfl rfl rfl (by decide) (by decide) rfl (M.load (k:=0) rfl (Ql Ut rfl)) JR Ug WT hD.len hD.Yx (fun i st9=>Mem st.h.get st.n [] st9 [(c8,0,[kd]),(c4,0,[.int .i64 0]),(c3,0,[.str nm])]∧U8 sc nm=U8 (sc.take i) nm) ⟨M,(by rw[Lu])⟩ (fun i st9 hi hJ=>?_) (fun st9 hJ=>?_)
 ·obtain⟨M,hx⟩:=hJ;obtain⟨⟨dn10,do10,da10⟩,hi10⟩: ∃k,sc[i]? =some k:=⟨_,List.getElem?_eq_getElem (by omega)⟩;have hm10:=UI hi10;obtain⟨_,hc10,rfl,hy10⟩:=hD.at_ _ _ hi10;refine⟨M.load (k:=0) rfl (Ql Ut rfl),_,_,_,(hD.r.mem M (by simp)),hc10,fun T hT=>?_⟩;have K:=hT;refine au 2 K M ?_;intro c6 _ _ K _ M;refine⟨rfl,?_⟩;refine Qc 4 K M ?_;intro _ K;refine YX K rfl (fun h14=>?_) fun h14=>?_
  ·refine au 3 K M ?_;intro _ _ K _ M;refine Qd ?_;have K:=K9;refine⟨.inr rfl,_,(Ky (Ya K rfl (M.load (k:=2) rfl (Ql QA rfl)))),?_⟩;exact⟨by rw[hx,AF hi10,if_pos h14],M.qt⟩
  refine QO ?_;exact⟨M.less (.cons _ (.refl _)),(by rw[hx,AF hi10,if_neg h14])⟩
 obtain⟨M,hx⟩:=hJ;show W _ _ _ _ _ _ _;refine au 1 K M ?_;intro _ _ K _ M;refine Qd ⟨.inr rfl,_,(Ky (Ya K rfl (M.load (k:=1) rfl (Ql QA rfl)))),?_⟩;exact⟨by rw[hx];rfl,M.qt⟩

theorem NM{st:St}(hf:Q3 st){sc:List Dc}{kd:AV}{ld:List (List AV)}(hD:Yo st.h.get sc kd ld)(nm:List Nat): ∃v st',Ev Tryz.prog Jg 97 [kd,.str nm] st v st'∧v=.int .i64 (U8 sc nm)∧Qt st st':=by
 have hln:=hD.ln;have hbn:=hD.Yx;refine QG rfl Tryz.func97 rfl Tryz.ntmps97 rfl fun T hT=>?_;have K:Jk [(0,_),(1,_)] T:=(.cons (hT 0) (.cons (hT 1) .nil));have M:=Mem.start hf;refine Qc 2 K M ?_;intro _ K;refine o1 K (QP JR rfl rfl hD.len) rfl fun _ K=>o1 K (I8 rfl rfl (by omega) (by omega)) rfl fun _ K=>?_;refine Qc 1 K M ?_;intro _ K;refine JX (fun mm1 T st9=> ∃(i:Nat) (z:Int),mm1=i+1∧Jk [(0,kd),(1,.str nm),(5,.int .i64 z)] T∧Mem st.h.get st.n [] st9 []∧i≤sc.length∧z=((i:Nat):Int)-1∧U8 sc nm=U8 (sc.take i) nm) (fun mm1 T st9 hI=>?_) _ _ _ ⟨sc.length,_,rfl,(.cons (K _ _ rfl) (.cons (K _ _ rfl) (.cons (K _ _ rfl) .nil))),M.less (.refl _),(Nat.le_refl _),rfl,(by rw[Lu])⟩;obtain⟨i,z,rfl,K,M,hi,hz,hx⟩:=hI;refine Qc 2 K M ?_;intro _ K;refine YX K rfl (fun h10=>?_) fun h10=>?_
 ·refine Qc 2 K M ?_;intro _ K;obtain⟨⟨dn15,do15,da15⟩,hi15⟩: ∃k,sc[(i-1)]? =some k:=⟨_,List.getElem?_eq_getElem (by omega)⟩;have hm15:=UI hi15;obtain⟨_,hc15,rfl,hy15⟩:=hD.at_ _ _ hi15;obtain⟨x15,m15,f15,q15,_,la15,lo15,lp15⟩:=(hD.r.mem M (by simp)).load (i:=(i-1)) (cs:=_) hc15;refine o1 K (Qn (j:=(i-1)) Ug (congrArg some q15) (congrArg (fun z=>some (AV.int .i64 z)) (by omega:_=(((i-1):Nat):Int))) (by rw[hD.ln];omega)) rfl fun _ K=>o1 K (Qf Z5 rfl) rfl fun _ K=>o1 K (Qq rfl (lo15 _ 0 _ Ji rfl)) rfl fun _ K=>?_;refine Qc 2 K M ?_;intro _ K;refine YX K rfl (fun h19=>?_) fun h19=>?_
  ·refine Qc 2 K M ?_;intro _ K;obtain⟨⟨dn22,do22,da22⟩,hi22⟩: ∃k,sc[(i-1)]? =some k:=⟨_,List.getElem?_eq_getElem (by omega)⟩;have hm22:=UI hi22;obtain⟨_,hc22,rfl,hy22⟩:=hD.at_ _ _ hi22;obtain⟨x22,m22,f22,q22,_,la22,lo22,lp22⟩:=(hD.r.mem M (by simp)).load (i:=(i-1)) (cs:=_) hc22;refine o1 K (Qn (j:=(i-1)) Ug (congrArg some q22) (congrArg (fun z=>some (AV.int .i64 z)) (by omega:_=(((i-1):Nat):Int))) (by rw[hD.ln];omega)) rfl fun _ K=>o1 K (Qf Vy rfl) rfl fun _ K=>o1 K (Qq rfl (lo22 _ 1 _ QA rfl)) rfl fun _ K=>?_;refine Qc 1 K M ?_;intro _ K;refine Qd ⟨.inr rfl,_,J7 K rfl,?_⟩;cases Option.some.inj (hi15.symm.trans hi22);exact⟨by rw[hx,Kd hi15 (by omega),if_pos h19],M.qt⟩
  refine Qc 1 K M ?_;intro _ K;refine o1 K (I8 rfl rfl (by omega) (by omega)) rfl fun _ K=>o1 K (Qu rfl) rfl fun _ K=>Q5 ?_;exact⟨_,(by omega),i-1,_,rfl,(.cons (K _ _ rfl) (.cons (K _ _ rfl) (.cons (K _ _ rfl) .nil))),M.less (.refl _),(by omega),(by omega),(by rw[hx,Kd hi15 (by omega),if_neg h19])⟩
 refine JJ ?_;show W _ _ _ _ _ _ _;refine Qc 1 K M ?_;intro _ K;refine Qd ⟨.inr rfl,_,J7 K rfl,?_⟩;exact⟨by rw[hx,GL (by omega)],M.qt⟩
end Go.Proofs.YtadjjadimlkkgaaGreatDoor
