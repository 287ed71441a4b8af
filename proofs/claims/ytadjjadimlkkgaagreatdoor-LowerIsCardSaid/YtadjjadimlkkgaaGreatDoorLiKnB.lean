/-
  Kinds of terms: the program's answer.
-/
import Derived.Test.YtadjjadimlkkgaaGreatDoorLiKnA
namespace Go.Proofs.YtadjjadimlkkgaaGreatDoor
open Go Go.RowKit
set_option maxHeartbeats 8000000
set_option linter.unusedVariables false
set_option linter.unusedSimpArgs false
set_option linter.unnecessarySimpa false
set_option maxRecDepth 100000

theorem Lf{o s:List Nat}{z a:Int}{l:List Nd}(h:QJ (.mk o s z a l)=true){k:Nd}(hk:k∈l):QJ k=true:=by
 rw[Ju]at h
 by_cases h1:o=Zr
 ·subst h1;rw[if_pos rfl]at h;simp at h;simp[h.2.2]at hk
 by_cases h2:o=ZS
 ·subst h2;rw[if_neg (by decide),if_pos rfl]at h;simp at h;simp[h.2.2.2]at hk
 rw[if_neg h1,if_neg h2]at h
 by_cases h3:o=UM
 ·rw[if_pos h3]at h;simp at h;exact(h.2.2.2.2 _ hk).2
 by_cases h4:o=YD
 ·rw[if_neg h3,if_pos h4]at h;simp at h;exact(show _∧_ by simpa [UG]using h.2.2.2 _ hk).1
 rw[if_neg h3,if_neg h4]at h
 by_cases h5:Jr o=true
 ·rw[if_pos h5]at h;simp at h;exact h.2.1 _ hk
 ·rw[if_neg h5]at h;cases h
theorem U5{o s:List Nat}{z a:Int}{l:List Nd}(h:QJ (.mk o s z a l)=true)(ho:o=UM):((l.length:Nat):Int)=1:=by
 rw[Ju,ho,if_neg (by decide),if_neg (by decide),if_pos rfl]at h;simp at h;omega
theorem Pk{sc:List Dc}{pl:Bool}{a w:Int}: ∀{l:List Nd} {r:Int×Int},UT sc pl a w l=some r→r.2≠0:=by
 intro l
 induction l with
 |nil=>intro r h;rw[UT]at h;cases h
 |cons k l ih=>
  intro r h;rw[UT]at h
  by_cases h1:(Q0 sc k).2.2≠0
  ·rw[if_pos h1]at h;injection h with h;subst h;exact h1
  ·rw[if_neg h1]at h
   by_cases h2:(Q0 sc k).1≠w
   ·rw[if_pos h2]at h;injection h with h;subst h;show(7:Int)≠0;decide
   ·rw[if_neg h2]at h;exact ih h
def kT(r:Int×Int×Int):AV:=.tup [.int .i64 r.1,.int .i64 r.2.1,.int .i64 r.2.2]
def SE(sc:List Dc)(x:Nd):AV:=.tup [.int .i64 (Q0 sc x).1,.int .i64 (Q0 sc x).2.1,.int .i64 (Q0 sc x).2.2]
def zk(r:Option (Int×Int)):AV:=.tup [.int .i64 (r.getD (0,0)).1,.int .i64 (r.getD (0,0)).2]
theorem L9{sc:List Dc}{o s:List Nat}{z a:Int}{l:List Nd}(h:o=[118,97,114]):Q0 sc (.mk o s z a l)=if UE sc s<0 then(0,a,5)else(UE sc s,0,0):=by rw[Q0,if_pos h]
theorem Pj{sc:List Dc}{o s:List Nat}{z a:Int}{l:List Nd}(h:o=[110,117,109]):Q0 sc (.mk o s z a l)=(1,0,0):=by subst h;rw[Q0,if_neg (by decide),if_pos rfl]
theorem ER{sc:List Dc}{o s:List Nat}{z a:Int}{k:Nd}(h:o=[112,108,117,115]):Q0 sc (.mk o s z a [k])=if(Q0 sc k).2.2≠0 then(0,(Q0 sc k).2.1,(Q0 sc k).2.2)else if(Q0 sc k).1≠1 then(0,a,7)else(1,0,0):=by
 subst h;rw[Q0,if_neg (by decide),if_neg (by decide),UT,UT]
 by_cases h1:(Q0 sc k).2.2≠0
 ·rw[if_pos h1,if_pos h1]
 ·rw[if_neg h1,if_neg h1,if_pos (Or.inl rfl)]
  by_cases h2:(Q0 sc k).1≠1
  ·rw[if_pos h2,if_pos h2];simp
  ·rw[if_neg h2,if_neg h2];simp
theorem LA{sc:List Dc}{o s:List Nat}{z a:Int}{l:List Nd}(h1: ¬o=[118,97,114])(h2: ¬o=[110,117,109])(h3: ¬o=[112,108,117,115]){w:Int}(hw:w=if o=[115,101,116]then 1 else 2):Q0 sc (.mk o s z a l)=match UT sc false a w l with
  |some r=>(0,r.1,r.2)
  |none=>(2,0,0):=by
 rw[Q0,if_neg h1,if_neg h2];simp[h3,hw]
 cases UT sc false a (if o=[115,101,116]then 1 else 2) l<;>rfl

theorem uz{st:St}(hf:Qx st){sc:List Dc}{kd:AV}{ld:List (List AV)}(hD:Y8 st.h.get sc kd ld){l:List Nd}{kk:AV}{ls:List (List AV)}(hK:VI st.h.get l kk ls)(hTm: ∀k∈l,QJ k=true)(w a:Int)(hC: ∀(k:Nd),k∈l→ ∀(st1:St) (cs:List AV),Qx st1→Y8 st1.h.get sc kd ld→Yq st1.h.get k cs→QJ k=true→ ∃v st',Ev Tryz.prog QT 146 [kd,.agg cs] st1 v st'∧v=SE sc k∧Qt st1 st'): ∃v st',Ev Tryz.prog QT 196 [kd,kk,.int .i64 w] st v st'∧v=zk (UT sc false a w l)∧Qt st st':=by
 have hln:=hK.ln;have hbn:=hK.UK;refine Q6 rfl Tryz.func196 rfl Tryz.ntmps196 rfl fun T hT=>?_;have K:Jf [(0,_),(1,_),(2,_)] T:=(.cons (hT 0) (.cons (hT 1) (.cons (hT 2) .nil)));have M:=Mem.start hf;refine Qg 3 K M ?_;intro _ K;refine o1 K (QF QV rfl rfl hK.len) rfl fun _ K=>?_;refine Qg 1 K M ?_;intro _ K;refine UW (fun mm1 T st9=> ∃(i:Nat),mm1=l.length-i∧Jf [(0,kd),(2,.int .i64 w),(13,kk),(14,.int .i64 (((l.length:Nat):Int))),(15,.int .i64 (((i:Nat):Int)))] T∧Mem st.h.get st.n [] st9 []∧i≤l.length∧UT sc false a w l=UT sc false a w (l.drop i)) (fun mm1 T st9 hI=>?_) _ _ _ ⟨0,rfl,(.cons (K _ _ rfl) (.cons (K _ _ rfl) (.cons (K _ _ rfl) (.cons (K _ _ rfl) (.cons (K _ _ rfl) .nil))))),M.less (.refl _),(Nat.zero_le _),(by rw[List.drop_zero])⟩;obtain⟨i,rfl,K,M,hi,hx⟩:=hI;refine Qg 1 K M ?_;intro _ K;refine YI K rfl (fun h16=>?_) fun h16=>?_
 ·refine QU ?_;show W _ _ _ _ _ _ _;refine Qo<|Yh<|Qo<|Qb ?_;obtain⟨⟨o17,s17,z17,a17,l17⟩,hi17⟩: ∃k,l[i]? =some k:=⟨_,List.getElem?_eq_getElem (by first|omega|(have:=U5 ht (by assumption);omega))⟩;have hm17:=JQ hi17;obtain⟨_,hc17,hn17⟩:=hK.at_ _ _ hi17;have hp17:=hn17;obtain⟨kk17,ls17,rfl,hK17,hb17⟩:=hp17.Jl;obtain⟨x17,m17,f17,q17,_,la17,lo17,lp17⟩:=(hK.r.mem M (by simp)).load (i:=i) (cs:=_) hc17;refine o1 K (Qe (j:=i) QP (congrArg some q17) rfl (by rw[hK.ln];first|omega|(have:=U5 ht (by assumption);omega))) rfl fun _ K=>o1 K (Qr rfl (la17 _ Ji)) rfl fun _ K=>?_;refine UZ K M YX (by decide) fun c9 _ _ K M=>?_;refine QI (k:=0) K M rfl rfl rfl UF rfl (Qa rfl (Qa rfl (Qa rfl (Qa rfl (Qa hK17.cell Qy))))) rfl fun _ M=>?_;refine Qg 2 K M ?_;intro _ K;refine oQ K M (hC _ hm17 _ _ M.fresh (Y8.mono M.rows hD) (hn17.mono M.rows) (hTm _ hm17)) rfl rfl fun _ _ K M=>?_;refine Qg 9 K M ?_;intro _ K;refine Rn K rfl (fun h27=>?_) fun h27=>?_
  ·refine Qg 4 K M ?_;intro _ K;refine Qf ⟨.inr rfl,_,VJ K rfl rfl,?_⟩;exact⟨by rw[hx,ES hi17,if_pos (by omega)];rfl,M.qt⟩
  refine Qg 3 K M ?_;intro _ K;refine Rn K rfl (fun h32=>?_) fun h32=>?_
  ·refine Qg 4 K M ?_;intro _ K;refine Qf ⟨.inr rfl,_,VJ K rfl rfl,?_⟩;exact⟨by rw[hx,ES hi17,if_neg (by omega),if_pos (by omega)];rfl,M.qt⟩
  refine QU ?_;show W _ _ _ _ _ _ _;refine Qb<|o1 K (Jo rfl rfl (by omega) (by omega)) rfl fun _ K=>o1 K (Qc rfl) rfl fun _ K=>QG ?_;exact⟨_,(by omega),i+1,rfl,(.cons (K _ _ rfl) (.cons (K _ _ rfl) (.cons (K _ _ rfl) (.cons (K _ _ rfl) (.cons (K _ _ rfl) .nil))))),M.less (.cons _ (.refl _)),(by omega),(by rw[hx,ES hi17,if_neg (by omega),if_neg (by omega)])⟩
 refine Uq ?_;show W _ _ _ _ _ _ _;refine Qg 2 K M ?_;intro _ K;refine Qf ⟨.inr rfl,_,VJ K rfl rfl,?_⟩;exact⟨by rw[hx,Un (by omega),UT];rfl,M.qt⟩

theorem NJ{sc:List Dc}{kd:AV}{ld:List (List AV)}(x:Nd): ∀(st:St) (cs:List AV),Qx st→Y8 st.h.get sc kd ld→Yq st.h.get x cs→QJ x=true→ ∃v st',Ev Tryz.prog QT 146 [kd,.agg cs] st v st'∧v=SE sc x∧Qt st st':=by
 refine Xi (M:=fun x=> ∀(st:St) (cs:List AV),Qx st→Y8 st.h.get sc kd ld→Yq st.h.get x cs→QJ x=true→ ∃v st',Ev Tryz.prog QT 146 [kd,.agg cs] st v st'∧v=SE sc x∧Qt st st') (fun o s z a l ih=>?_) x;intro st cs hf hD hr ht;have hr0:=hr;obtain⟨kk,ls,rfl,hK,hb⟩:=hr.Jl;have hln:=hK.ln;have hbn:=hK.UK;refine Q6 rfl Tryz.func146 rfl Tryz.ntmps146 rfl fun T hT=>?_;have K:Jf [(0,_),(1,_)] T:=(.cons (hT 0) (.cons (hT 1) .nil));have M:=Mem.start hf;refine Qo<|Qb ?_;refine QM K M rfl (Qa rfl (Qa rfl (Qa rfl (Qa rfl (Qa hK.cell Qy))))) (by decide) fun c3 _ _ K M=>?_;refine Qg 5 K M ?_;intro _ K;refine o1 K (Q8 (b:=[118,97,114]) rfl rfl) rfl fun _ K=>?_;refine Qg 1 K M ?_;intro _ K;refine YI K rfl (fun h13=>?_) fun h13=>?_
 ·refine Qg 3 K M ?_;intro _ K;refine oQ K M (I0 M.fresh (Y8.mono M.rows hD) s) rfl rfl fun _ _ K M=>?_;refine Qg 3 K M ?_;intro _ K;refine YI K rfl (fun h20=>?_) fun h20=>?_
  ·refine Qo ?_;refine JC (l:=[(0,0),(1,0),(2,0),(3,0),(4,0)]) (by kernel_rfl) ?_;refine d1 rfl K (QZ Vk rfl) rfl rfl fun _ K=>d1 rfl K (Qr rfl (M.load (k:=0) rfl (Qw JP rfl))) rfl rfl fun _ K=>d1 rfl K (Qq rfl) rfl rfl fun _ K=>d1 rfl K (Qq rfl) rfl rfl fun _ K=>d1 rfl K (Qq rfl) rfl rfl fun _ K=>Ui ?_;show W _ _ _ _ _ _ _;refine Qf ⟨.inr rfl,_,(Jv (Q5 K rfl) (Q5 K rfl) (Q5 K rfl)),?_⟩;refine⟨congrArg kT (a₁:=(0,a,5)) (a₂:=Q0 sc (.mk o s z a l)) (Eq.symm ?_),M.qt⟩;exact(L9 (by assumption)).trans (if_pos (by omega))
  refine Qg 4 K M ?_;intro _ K;refine Qf ⟨.inr rfl,_,(Jv (Q5 K rfl) (Q5 K rfl) (Q5 K rfl)),?_⟩;refine⟨congrArg kT (a₁:=(UE sc s,0,0)) (a₂:=Q0 sc (.mk o s z a l)) (Eq.symm ?_),M.qt⟩;exact(L9 (by assumption)).trans (if_neg (by omega))
 refine Qo<|Qb<|o1 K (Q8 (b:=[110,117,109]) rfl rfl) rfl fun _ K=>?_;refine Qg 1 K M ?_;intro _ K;refine YI K rfl (fun h24=>?_) fun h24=>?_
 ·refine Qg 3 K M ?_;intro _ K;refine Qf ⟨.inr rfl,_,(Jv (Q5 K rfl) (Q5 K rfl) (Q5 K rfl)),?_⟩;refine⟨congrArg kT (a₁:=(1,0,0)) (a₂:=Q0 sc (.mk o s z a l)) (Eq.symm ?_),M.qt⟩;exact Pj (by assumption)
 refine Qo<|Qb<|o1 K (Q8 (b:=[112,108,117,115]) rfl rfl) rfl fun _ K=>?_;refine Qg 1 K M ?_;intro _ K;refine YI K rfl (fun h26=>?_) fun h26=>?_
 ·refine Qg 3 K M ?_;intro _ K;obtain⟨⟨o32,s32,z32,a32,l32⟩,hi32⟩: ∃k,l[0]? =some k:=⟨_,List.getElem?_eq_getElem (by first|omega|(have:=U5 ht (by assumption);omega))⟩;have hm32:=JQ hi32;obtain⟨_,hc32,hn32⟩:=hK.at_ _ _ hi32;have hp32:=hn32;obtain⟨kk32,ls32,rfl,hK32,hb32⟩:=hp32.Jl;obtain⟨x32,m32,f32,q32,_,la32,lo32,lp32⟩:=(hK.r.mem M (by simp)).load (i:=0) (cs:=_) hc32;refine o1 K (Qe (j:=0) QP (congrArg some q32) rfl (by rw[hK.ln];first|omega|(have:=U5 ht (by assumption);omega))) rfl fun _ K=>o1 K (Qr rfl (la32 _ Ji)) rfl fun _ K=>?_;refine oQ K M (ih _ hm32 _ _ M.fresh (Y8.mono M.rows hD) (hn32.mono M.rows) (Lf ht hm32)) rfl rfl fun _ _ K M=>?_;refine Qg 9 K M ?_;intro _ K;refine Rn K rfl (fun h39=>?_) fun h39=>?_
  ·refine Qg 5 K M ?_;intro _ K;refine Qf ⟨.inr rfl,_,(Jv (Q5 K rfl) (Q5 K rfl) (Q5 K rfl)),?_⟩;refine⟨congrArg kT (a₁:=(0,(Q0 sc (.mk o32 s32 z32 a32 l32)).2.1,(Q0 sc (.mk o32 s32 z32 a32 l32)).2.2)) (a₂:=Q0 sc (.mk o s z a l)) (Eq.symm ?_),M.qt⟩;rw[JR (U5 ht (by assumption)) hi32];exact(ER (by assumption)).trans (if_pos (by omega))
  refine Qg 2 K M ?_;intro _ K;refine Rn K rfl (fun h43=>?_) fun h43=>?_
  ·refine Qo ?_;refine JC (l:=[(0,0),(1,0),(2,0),(3,0),(4,0)]) (by kernel_rfl) ?_;refine d1 rfl K (QZ Vk rfl) rfl rfl fun _ K=>d1 rfl K (Qr rfl (M.load (k:=0) rfl (Qw JP rfl))) rfl rfl fun _ K=>d1 rfl K (Qq rfl) rfl rfl fun _ K=>d1 rfl K (Qq rfl) rfl rfl fun _ K=>d1 rfl K (Qq rfl) rfl rfl fun _ K=>Ui ?_;show W _ _ _ _ _ _ _;refine Qf ⟨.inr rfl,_,(Jv (Q5 K rfl) (Q5 K rfl) (Q5 K rfl)),?_⟩;refine⟨congrArg kT (a₁:=(0,a,7)) (a₂:=Q0 sc (.mk o s z a l)) (Eq.symm ?_),M.qt⟩;rw[JR (U5 ht (by assumption)) hi32];exact(ER (by assumption)).trans ((if_neg (by omega)).trans (if_pos (by omega)))
  refine Qg 3 K M ?_;intro _ K;refine Qf ⟨.inr rfl,_,(Jv (Q5 K rfl) (Q5 K rfl) (Q5 K rfl)),?_⟩;refine⟨congrArg kT (a₁:=(1,0,0)) (a₂:=Q0 sc (.mk o s z a l)) (Eq.symm ?_),M.qt⟩;rw[JR (U5 ht (by assumption)) hi32];exact(ER (by assumption)).trans ((if_neg (by omega)).trans (if_neg (by omega)))
 refine QU ?_;show W _ _ _ _ _ _ _;refine Qo<|Qb<|o1 K (Qq rfl) rfl fun _ K=>QG ?_;show W _ _ _ _ _ _ _;refine FH (J:=fun T st9=> ∃(w:Int),Jf [(0,kd),(3,.ptr c3 0 0),(4,.int .i64 0),(5,.int .i64 0),(6,.int .i64 0),(10,.int .i64 w)] T∧Mem st.h.get st.n [] st9 [(c3,0,[.str o,.str s,.int .i64 z,.int .i64 a,kk])]∧w=if o=[115,101,116]then 1 else 2) ?_ (fun T st9 hJ=>?_)
 ·refine Qg 2 K M ?_;intro _ K;refine o1 K (Q8 (b:=[115,101,116]) rfl rfl) rfl fun _ K=>QG ?_;show W _ _ _ _ _ _ _;refine YI K rfl (fun h48=>?_) fun h48=>?_
  ·refine Qg 1 K M ?_;intro _ K;exact⟨_,(.cons (K _ _ rfl) (.cons (K _ _ rfl) (.cons (K _ _ rfl) (.cons (K _ _ rfl) (.cons (K _ _ rfl) (.cons (K _ _ rfl) .nil)))))),M.less (.refl _),(by simp_all)⟩
  refine QU ?_;exact⟨_,(.cons (K _ _ rfl) (.cons (K _ _ rfl) (.cons (K _ _ rfl) (.cons (K _ _ rfl) (.cons (K _ _ rfl) (.cons (K _ _ rfl) .nil)))))),M.less (.refl _),(by simp_all)⟩
 obtain⟨w,K,M,hw⟩:=hJ;refine Qg 4 K M ?_;intro _ K;refine oQ K M (uz M.fresh (Y8.mono M.rows hD) (hK.mem M) (fun k hk=>Lf ht hk) w a (fun k hk st1 cs h1 h2 h3 h4=>ih _ hk st1 cs h1 h2 h3 h4)) rfl rfl fun _ _ K M=>?_;refine Qg 7 K M ?_;intro _ K;refine Rn K rfl (fun h58=>?_) fun h58=>?_
 ·refine Qg 5 K M ?_;intro _ K;refine Qf ⟨.inr rfl,_,(Jv (Q5 K rfl) (Q5 K rfl) (Q5 K rfl)),?_⟩;refine⟨congrArg kT (a₁:=(0,((UT sc false a w l).getD (0,0)).1,((UT sc false a w l).getD (0,0)).2)) (a₂:=Q0 sc (.mk o s z a l)) (Eq.symm ?_),M.qt⟩;rw[LA (by assumption) (by assumption) (by assumption) hw]
  cases hl:UT sc false a w l with
  |none=>rw[hl]at h58;exact absurd rfl h58
  |some r=>rfl
 refine Qg 3 K M ?_;intro _ K;refine Qf ⟨.inr rfl,_,(Jv (Q5 K rfl) (Q5 K rfl) (Q5 K rfl)),?_⟩;refine⟨congrArg kT (a₁:=(2,0,0)) (a₂:=Q0 sc (.mk o s z a l)) (Eq.symm ?_),M.qt⟩;rw[LA (by assumption) (by assumption) (by assumption) hw]
 cases hl:UT sc false a w l with
 |none=>rfl
 |some r=>rw[hl]at h58;exact absurd h58 (Pk hl)
end Go.Proofs.YtadjjadimlkkgaaGreatDoor
