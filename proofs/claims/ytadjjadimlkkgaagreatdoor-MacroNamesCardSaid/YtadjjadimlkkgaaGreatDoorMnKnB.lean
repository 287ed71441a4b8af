/-
  Kinds of terms: the program's answer.
-/
import Derived.Test.YtadjjadimlkkgaaGreatDoorMnKnA
namespace Go.Proofs.YtadjjadimlkkgaaGreatDoor
open Go Go.RowKit
set_option maxHeartbeats 8000000
set_option linter.unusedVariables false
set_option linter.unusedSimpArgs false
set_option linter.unnecessarySimpa false
set_option maxRecDepth 100000

theorem LQ{o s:List Nat}{z a:Int}{l:List Nd}(h:Q9 (.mk o s z a l)=true){k:Nd}(hk:k∈l):Q9 k=true:=by
 rw[Jc]at h
 by_cases h1:o=ZX
 ·subst h1;rw[if_pos rfl]at h;simp at h;simp[h.2.2]at hk
 by_cases h2:o=YA
 ·subst h2;rw[if_neg (by decide),if_pos rfl]at h;simp at h;simp[h.2.2.2]at hk
 rw[if_neg h1,if_neg h2]at h
 by_cases h3:o=JZ
 ·rw[if_pos h3]at h;simp at h;exact(h.2.2.2.2 _ hk).2
 by_cases h4:o=Zr
 ·rw[if_neg h3,if_pos h4]at h;simp at h;exact(show _∧_ by simpa [UB]using h.2.2.2 _ hk).1
 rw[if_neg h3,if_neg h4]at h
 by_cases h5:Jt o=true
 ·rw[if_pos h5]at h;simp at h;exact h.2.1 _ hk
 ·rw[if_neg h5]at h;cases h
theorem U3{o s:List Nat}{z a:Int}{l:List Nd}(h:Q9 (.mk o s z a l)=true)(ho:o=JZ):((l.length:Nat):Int)=1:=by
 rw[Jc,ho,if_neg (by decide),if_neg (by decide),if_pos rfl]at h;simp at h;omega
theorem Rq{sc:List Dc}{pl:Bool}{a w:Int}: ∀{l:List Nd} {r:Int×Int},Yl sc pl a w l=some r→r.2≠0:=by
 intro l
 induction l with
 |nil=>intro r h;rw[Yl]at h;cases h
 |cons k l ih=>
  intro r h;rw[Yl]at h
  by_cases h1:(Qz sc k).2.2≠0
  ·rw[if_pos h1]at h;injection h with h;subst h;exact h1
  ·rw[if_neg h1]at h
   by_cases h2:(Qz sc k).1≠w
   ·rw[if_pos h2]at h;injection h with h;subst h;show(7:Int)≠0;decide
   ·rw[if_neg h2]at h;exact ih h
def kT(r:Int×Int×Int):AV:=.tup [.int .i64 r.1,.int .i64 r.2.1,.int .i64 r.2.2]
def Mc(sc:List Dc)(x:Nd):AV:=.tup [.int .i64 (Qz sc x).1,.int .i64 (Qz sc x).2.1,.int .i64 (Qz sc x).2.2]
def xX(r:Option (Int×Int)):AV:=.tup [.int .i64 (r.getD (0,0)).1,.int .i64 (r.getD (0,0)).2]
theorem N0{sc:List Dc}{o s:List Nat}{z a:Int}{l:List Nd}(h:o=[118,97,114]):Qz sc (.mk o s z a l)=if Je sc s<0 then(0,a,5)else(Je sc s,0,0):=by rw[Qz,if_pos h]
theorem Rp{sc:List Dc}{o s:List Nat}{z a:Int}{l:List Nd}(h:o=[110,117,109]):Qz sc (.mk o s z a l)=(1,0,0):=by subst h;rw[Qz,if_neg (by decide),if_pos rfl]
theorem AO{sc:List Dc}{o s:List Nat}{z a:Int}{k:Nd}(h:o=[112,108,117,115]):Qz sc (.mk o s z a [k])=if(Qz sc k).2.2≠0 then(0,(Qz sc k).2.1,(Qz sc k).2.2)else if(Qz sc k).1≠1 then(0,a,7)else(1,0,0):=by
 subst h;rw[Qz,if_neg (by decide),if_neg (by decide),Yl,Yl]
 by_cases h1:(Qz sc k).2.2≠0
 ·rw[if_pos h1,if_pos h1]
 ·rw[if_neg h1,if_neg h1,if_pos (Or.inl rfl)]
  by_cases h2:(Qz sc k).1≠1
  ·rw[if_pos h2,if_pos h2];simp
  ·rw[if_neg h2,if_neg h2];simp
theorem N1{sc:List Dc}{o s:List Nat}{z a:Int}{l:List Nd}(h1: ¬o=[118,97,114])(h2: ¬o=[110,117,109])(h3: ¬o=[112,108,117,115]){w:Int}(hw:w=if o=[115,101,116]then 1 else 2):Qz sc (.mk o s z a l)=match Yl sc false a w l with
  |some r=>(0,r.1,r.2)
  |none=>(2,0,0):=by
 rw[Qz,if_neg h1,if_neg h2];simp[h3,hw]
 cases Yl sc false a (if o=[115,101,116]then 1 else 2) l<;>rfl

theorem yW{st:St}(hf:Qu st){sc:List Dc}{kd:AV}{ld:List (List AV)}(hD:Y1 st.h.get sc kd ld){l:List Nd}{kk:AV}{ls:List (List AV)}(hK:Vz st.h.get l kk ls)(hTm: ∀k∈l,Q9 k=true)(w a:Int)(hC: ∀(k:Nd),k∈l→ ∀(st1:St) (cs:List AV),Qu st1→Y1 st1.h.get sc kd ld→UN st1.h.get k cs→Q9 k=true→ ∃v st',Ev Tryz.prog QU 146 [kd,.agg cs] st1 v st'∧v=Mc sc k∧Qt st1 st'): ∃v st',Ev Tryz.prog QU 196 [kd,kk,.int .i64 w] st v st'∧v=xX (Yl sc false a w l)∧Qt st st':=by
 have hln:=hK.ln;have hbn:=hK.Uj;refine QE rfl Tryz.func196 rfl Tryz.ntmps196 rfl fun T hT=>?_;have K:QT [(0,_),(1,_),(2,_)] T:=(.cons (hT 0) (.cons (hT 1) (.cons (hT 2) .nil)));have M:=Mem.start hf;refine Qf 3 K M ?_;intro _ K;refine o1 K (QL Q7 rfl rfl hK.len) rfl fun _ K=>?_;refine Qf 1 K M ?_;intro _ K;refine JN (fun mm1 T st9=> ∃(i:Nat),mm1=l.length-i∧QT [(0,kd),(2,.int .i64 w),(13,kk),(14,.int .i64 (((l.length:Nat):Int))),(15,.int .i64 (((i:Nat):Int)))] T∧Mem st.h.get st.n [] st9 []∧i≤l.length∧Yl sc false a w l=Yl sc false a w (l.drop i)) (fun mm1 T st9 hI=>?_) _ _ _ ⟨0,rfl,(.cons (K _ _ rfl) (.cons (K _ _ rfl) (.cons (K _ _ rfl) (.cons (K _ _ rfl) (.cons (K _ _ rfl) .nil))))),M.less (.refl _),(Nat.zero_le _),(by rw[List.drop_zero])⟩;obtain⟨i,rfl,K,M,hi,hx⟩:=hI;refine Qf 1 K M ?_;intro _ K;refine Xo K rfl (fun h16=>?_) fun h16=>?_
 ·refine Q8 ?_;show W _ _ _ _ _ _ _;refine Qn<|Uq<|Qn<|Qb ?_;obtain⟨⟨o17,s17,z17,a17,l17⟩,hi17⟩: ∃k,l[i]? =some k:=⟨_,List.getElem?_eq_getElem (by first|omega|(have:=U3 ht (by assumption);omega))⟩;have hm17:=J6 hi17;obtain⟨_,hc17,hn17⟩:=hK.at_ _ _ hi17;have hp17:=hn17;obtain⟨kk17,ls17,rfl,hK17,hb17⟩:=hp17.QJ;obtain⟨x17,m17,f17,q17,_,la17,lo17,lp17⟩:=(hK.r.mem M (by simp)).load (i:=i) (cs:=_) hc17;refine o1 K (Qj (j:=i) QH (congrArg some q17) rfl (by rw[hK.ln];first|omega|(have:=U3 ht (by assumption);omega))) rfl fun _ K=>o1 K (Qr rfl (la17 _ Qs)) rfl fun _ K=>?_;refine Ul K M Ja (by decide) fun c9 _ _ K M=>?_;refine Q5 (k:=0) K M rfl rfl rfl Qq rfl (Qa rfl (Qa rfl (Qa rfl (Qa rfl (Qa hK17.cell Qp))))) rfl fun _ M=>?_;refine Qf 2 K M ?_;intro _ K;refine oQ K M (hC _ hm17 _ _ M.fresh (Y1.mono M.rows hD) (hn17.mono M.rows) (hTm _ hm17)) rfl rfl fun _ _ K M=>?_;refine Qf 9 K M ?_;intro _ K;refine P4 K rfl (fun h27=>?_) fun h27=>?_
  ·refine Qf 4 K M ?_;intro _ K;refine Qe ⟨.inr rfl,_,Wy K rfl rfl,?_⟩;exact⟨by rw[hx,AP hi17,if_pos (by omega)];rfl,M.qt⟩
  refine Qf 3 K M ?_;intro _ K;refine P4 K rfl (fun h32=>?_) fun h32=>?_
  ·refine Qf 4 K M ?_;intro _ K;refine Qe ⟨.inr rfl,_,Wy K rfl rfl,?_⟩;exact⟨by rw[hx,AP hi17,if_neg (by omega),if_pos (by omega)];rfl,M.qt⟩
  refine Q8 ?_;show W _ _ _ _ _ _ _;refine Qb<|o1 K (Jf rfl rfl (by omega) (by omega)) rfl fun _ K=>o1 K (Qd rfl) rfl fun _ K=>Qy ?_;exact⟨_,(by omega),i+1,rfl,(.cons (K _ _ rfl) (.cons (K _ _ rfl) (.cons (K _ _ rfl) (.cons (K _ _ rfl) (.cons (K _ _ rfl) .nil))))),M.less (.cons _ (.refl _)),(by omega),(by rw[hx,AP hi17,if_neg (by omega),if_neg (by omega)])⟩
 refine J7 ?_;show W _ _ _ _ _ _ _;refine Qf 2 K M ?_;intro _ K;refine Qe ⟨.inr rfl,_,Wy K rfl rfl,?_⟩;exact⟨by rw[hx,Jo (by omega),Yl];rfl,M.qt⟩

theorem O8{sc:List Dc}{kd:AV}{ld:List (List AV)}(x:Nd): ∀(st:St) (cs:List AV),Qu st→Y1 st.h.get sc kd ld→UN st.h.get x cs→Q9 x=true→ ∃v st',Ev Tryz.prog QU 146 [kd,.agg cs] st v st'∧v=Mc sc x∧Qt st st':=by
 refine J2 (M:=fun x=> ∀(st:St) (cs:List AV),Qu st→Y1 st.h.get sc kd ld→UN st.h.get x cs→Q9 x=true→ ∃v st',Ev Tryz.prog QU 146 [kd,.agg cs] st v st'∧v=Mc sc x∧Qt st st') (fun o s z a l ih=>?_) x;intro st cs hf hD hr ht;have hr0:=hr;obtain⟨kk,ls,rfl,hK,hb⟩:=hr.QJ;have hln:=hK.ln;have hbn:=hK.Uj;refine QE rfl Tryz.func146 rfl Tryz.ntmps146 rfl fun T hT=>?_;have K:QT [(0,_),(1,_)] T:=(.cons (hT 0) (.cons (hT 1) .nil));have M:=Mem.start hf;refine Qn<|Qb ?_;refine QO K M rfl (Qa rfl (Qa rfl (Qa rfl (Qa rfl (Qa hK.cell Qp))))) (by decide) fun c3 _ _ K M=>?_;refine Qf 5 K M ?_;intro _ K;refine o1 K (QC (b:=[118,97,114]) rfl rfl) rfl fun _ K=>?_;refine Qf 1 K M ?_;intro _ K;refine Xo K rfl (fun h13=>?_) fun h13=>?_
 ·refine Qf 3 K M ?_;intro _ K;refine oQ K M (Kl M.fresh (Y1.mono M.rows hD) s) rfl rfl fun _ _ K M=>?_;refine Qf 3 K M ?_;intro _ K;refine Xo K rfl (fun h20=>?_) fun h20=>?_
  ·refine Qn ?_;refine Up (l:=[(0,0),(1,0),(2,0),(3,0),(4,0)]) (by kernel_rfl) ?_;refine d1 rfl K (Qw VS rfl) rfl rfl fun _ K=>d1 rfl K (Qr rfl (M.load (k:=0) rfl (QA Zp rfl))) rfl rfl fun _ K=>d1 rfl K (Q0 rfl) rfl rfl fun _ K=>d1 rfl K (Q0 rfl) rfl rfl fun _ K=>d1 rfl K (Q0 rfl) rfl rfl fun _ K=>UG ?_;show W _ _ _ _ _ _ _;refine Qe ⟨.inr rfl,_,(Zz (Js K rfl) (Js K rfl) (Js K rfl)),?_⟩;refine⟨congrArg kT (a₁:=(0,a,5)) (a₂:=Qz sc (.mk o s z a l)) (Eq.symm ?_),M.qt⟩;exact(N0 (by assumption)).trans (if_pos (by omega))
  refine Qf 4 K M ?_;intro _ K;refine Qe ⟨.inr rfl,_,(Zz (Js K rfl) (Js K rfl) (Js K rfl)),?_⟩;refine⟨congrArg kT (a₁:=(Je sc s,0,0)) (a₂:=Qz sc (.mk o s z a l)) (Eq.symm ?_),M.qt⟩;exact(N0 (by assumption)).trans (if_neg (by omega))
 refine Qn<|Qb<|o1 K (QC (b:=[110,117,109]) rfl rfl) rfl fun _ K=>?_;refine Qf 1 K M ?_;intro _ K;refine Xo K rfl (fun h24=>?_) fun h24=>?_
 ·refine Qf 3 K M ?_;intro _ K;refine Qe ⟨.inr rfl,_,(Zz (Js K rfl) (Js K rfl) (Js K rfl)),?_⟩;refine⟨congrArg kT (a₁:=(1,0,0)) (a₂:=Qz sc (.mk o s z a l)) (Eq.symm ?_),M.qt⟩;exact Rp (by assumption)
 refine Qn<|Qb<|o1 K (QC (b:=[112,108,117,115]) rfl rfl) rfl fun _ K=>?_;refine Qf 1 K M ?_;intro _ K;refine Xo K rfl (fun h26=>?_) fun h26=>?_
 ·refine Qf 3 K M ?_;intro _ K;obtain⟨⟨o32,s32,z32,a32,l32⟩,hi32⟩: ∃k,l[0]? =some k:=⟨_,List.getElem?_eq_getElem (by first|omega|(have:=U3 ht (by assumption);omega))⟩;have hm32:=J6 hi32;obtain⟨_,hc32,hn32⟩:=hK.at_ _ _ hi32;have hp32:=hn32;obtain⟨kk32,ls32,rfl,hK32,hb32⟩:=hp32.QJ;obtain⟨x32,m32,f32,q32,_,la32,lo32,lp32⟩:=(hK.r.mem M (by simp)).load (i:=0) (cs:=_) hc32;refine o1 K (Qj (j:=0) QH (congrArg some q32) rfl (by rw[hK.ln];first|omega|(have:=U3 ht (by assumption);omega))) rfl fun _ K=>o1 K (Qr rfl (la32 _ Qs)) rfl fun _ K=>?_;refine oQ K M (ih _ hm32 _ _ M.fresh (Y1.mono M.rows hD) (hn32.mono M.rows) (LQ ht hm32)) rfl rfl fun _ _ K M=>?_;refine Qf 9 K M ?_;intro _ K;refine P4 K rfl (fun h39=>?_) fun h39=>?_
  ·refine Qf 5 K M ?_;intro _ K;refine Qe ⟨.inr rfl,_,(Zz (Js K rfl) (Js K rfl) (Js K rfl)),?_⟩;refine⟨congrArg kT (a₁:=(0,(Qz sc (.mk o32 s32 z32 a32 l32)).2.1,(Qz sc (.mk o32 s32 z32 a32 l32)).2.2)) (a₂:=Qz sc (.mk o s z a l)) (Eq.symm ?_),M.qt⟩;rw[JI (U3 ht (by assumption)) hi32];exact(AO (by assumption)).trans (if_pos (by omega))
  refine Qf 2 K M ?_;intro _ K;refine P4 K rfl (fun h43=>?_) fun h43=>?_
  ·refine Qn ?_;refine Up (l:=[(0,0),(1,0),(2,0),(3,0),(4,0)]) (by kernel_rfl) ?_;refine d1 rfl K (Qw VS rfl) rfl rfl fun _ K=>d1 rfl K (Qr rfl (M.load (k:=0) rfl (QA Zp rfl))) rfl rfl fun _ K=>d1 rfl K (Q0 rfl) rfl rfl fun _ K=>d1 rfl K (Q0 rfl) rfl rfl fun _ K=>d1 rfl K (Q0 rfl) rfl rfl fun _ K=>UG ?_;show W _ _ _ _ _ _ _;refine Qe ⟨.inr rfl,_,(Zz (Js K rfl) (Js K rfl) (Js K rfl)),?_⟩;refine⟨congrArg kT (a₁:=(0,a,7)) (a₂:=Qz sc (.mk o s z a l)) (Eq.symm ?_),M.qt⟩;rw[JI (U3 ht (by assumption)) hi32];exact(AO (by assumption)).trans ((if_neg (by omega)).trans (if_pos (by omega)))
  refine Qf 3 K M ?_;intro _ K;refine Qe ⟨.inr rfl,_,(Zz (Js K rfl) (Js K rfl) (Js K rfl)),?_⟩;refine⟨congrArg kT (a₁:=(1,0,0)) (a₂:=Qz sc (.mk o s z a l)) (Eq.symm ?_),M.qt⟩;rw[JI (U3 ht (by assumption)) hi32];exact(AO (by assumption)).trans ((if_neg (by omega)).trans (if_neg (by omega)))
 refine Q8 ?_;show W _ _ _ _ _ _ _;refine Qn<|Qb<|o1 K (Q0 rfl) rfl fun _ K=>Qy ?_;show W _ _ _ _ _ _ _;refine Eh (J:=fun T st9=> ∃(w:Int),QT [(0,kd),(3,.ptr c3 0 0),(4,.int .i64 0),(5,.int .i64 0),(6,.int .i64 0),(10,.int .i64 w)] T∧Mem st.h.get st.n [] st9 [(c3,0,[.str o,.str s,.int .i64 z,.int .i64 a,kk])]∧w=if o=[115,101,116]then 1 else 2) ?_ (fun T st9 hJ=>?_)
 ·refine Qf 2 K M ?_;intro _ K;refine o1 K (QC (b:=[115,101,116]) rfl rfl) rfl fun _ K=>Qy ?_;show W _ _ _ _ _ _ _;refine Xo K rfl (fun h48=>?_) fun h48=>?_
  ·refine Qf 1 K M ?_;intro _ K;exact⟨_,(.cons (K _ _ rfl) (.cons (K _ _ rfl) (.cons (K _ _ rfl) (.cons (K _ _ rfl) (.cons (K _ _ rfl) (.cons (K _ _ rfl) .nil)))))),M.less (.refl _),(by simp_all)⟩
  refine Q8 ?_;exact⟨_,(.cons (K _ _ rfl) (.cons (K _ _ rfl) (.cons (K _ _ rfl) (.cons (K _ _ rfl) (.cons (K _ _ rfl) (.cons (K _ _ rfl) .nil)))))),M.less (.refl _),(by simp_all)⟩
 obtain⟨w,K,M,hw⟩:=hJ;refine Qf 4 K M ?_;intro _ K;refine oQ K M (yW M.fresh (Y1.mono M.rows hD) (hK.mem M) (fun k hk=>LQ ht hk) w a (fun k hk st1 cs h1 h2 h3 h4=>ih _ hk st1 cs h1 h2 h3 h4)) rfl rfl fun _ _ K M=>?_;refine Qf 7 K M ?_;intro _ K;refine P4 K rfl (fun h58=>?_) fun h58=>?_
 ·refine Qf 5 K M ?_;intro _ K;refine Qe ⟨.inr rfl,_,(Zz (Js K rfl) (Js K rfl) (Js K rfl)),?_⟩;refine⟨congrArg kT (a₁:=(0,((Yl sc false a w l).getD (0,0)).1,((Yl sc false a w l).getD (0,0)).2)) (a₂:=Qz sc (.mk o s z a l)) (Eq.symm ?_),M.qt⟩;rw[N1 (by assumption) (by assumption) (by assumption) hw]
  cases hl:Yl sc false a w l with
  |none=>rw[hl]at h58;exact absurd rfl h58
  |some r=>rfl
 refine Qf 3 K M ?_;intro _ K;refine Qe ⟨.inr rfl,_,(Zz (Js K rfl) (Js K rfl) (Js K rfl)),?_⟩;refine⟨congrArg kT (a₁:=(2,0,0)) (a₂:=Qz sc (.mk o s z a l)) (Eq.symm ?_),M.qt⟩;rw[N1 (by assumption) (by assumption) (by assumption) hw]
 cases hl:Yl sc false a w l with
 |none=>rfl
 |some r=>rw[hl]at h58;exact absurd h58 (Rq hl)
end Go.Proofs.YtadjjadimlkkgaaGreatDoor
