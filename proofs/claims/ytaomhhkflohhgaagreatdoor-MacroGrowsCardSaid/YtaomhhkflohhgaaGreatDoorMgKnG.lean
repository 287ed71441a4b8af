/-
  Kinds of terms: the program's answer.
-/
import Derived.Test.YtaomhhkflohhgaaGreatDoorMgKnA
set_option maxHeartbeats 8000000
set_option maxRecDepth 100000
set_option linter.unnecessarySimpa false
set_option linter.unusedSimpArgs false
set_option linter.unusedVariables false
namespace Go.Proofs.YtaomhhkflohhgaaGreatDoor
section
open Go Go.RowKit
variable {a z:Int} {l:List Nd} {o s:List Nat}

theorem Gt(h:QO (.mk o s z a l)=true){k:Nd}(hk:k∈l):QO k=true:=by
 rw[J6]at h
 by_cases h1:o=Vk
 ·subst h1;rw[if_pos rfl]at h;simp at h;simp[h.2.2]at hk
 by_cases h2:o=ZK
 ·subst h2;rw[if_neg QT,if_pos rfl]at h;simp at h;simp[h.2.2.2]at hk
 rw[if_neg h1,if_neg h2]at h
 by_cases h3:o=US
 ·rw[if_pos h3]at h;simp at h;exact(h.2.2.2.2 _ hk).2
 by_cases h4:o=X7
 ·rw[if_neg h3,if_pos h4]at h;simp at h;exact(show _∧_ by simpa [Y3]using h.2.2.2 _ hk).1
 rw[if_neg h3,if_neg h4]at h
 by_cases h5:JR o=true
 ·rw[if_pos h5]at h;simp at h;exact h.2.1 _ hk
 ·rw[if_neg h5]at h;cases h
theorem ZI(h:QO (.mk o s z a l)=true)(ho:o=US):((l.length:Nat):Int)=1:=by
 rw[J6,ho,if_neg QT,if_neg QT,if_pos rfl]at h;simp at h;omega
theorem Mg{sc:List Dc}{pl:Bool}{w:Int}: ∀{l:List Nd} {r:Int×Int},Zq sc pl a w l=some r→r.2≠0:=by
 intro l
 induction l with
 |nil=>intro r h;rw[Zq]at h;cases h
 |cons k l ih=>
  intro r h;rw[Zq]at h
  by_cases h1:(QB sc k).2.2≠0
  ·rw[if_pos h1]at h;injection h with h;subst h;exact h1
  ·rw[if_neg h1]at h
   by_cases h2:(QB sc k).1≠w
   ·rw[if_pos h2]at h;injection h with h;subst h;show(7:Int)≠0;decide
   ·rw[if_neg h2]at h;exact ih h
def kT(r:Int×Int×Int):AV:=.tup [.int .i64 r.1,.int .i64 r.2.1,.int .i64 r.2.2]
def jY(sc:List Dc)(x:Nd):AV:=.tup [.int .i64 (QB sc x).1,.int .i64 (QB sc x).2.1,.int .i64 (QB sc x).2.2]
def eP(r:Option (Int×Int)):AV:=.tup [.int .i64 (r.getD (0,0)).1,.int .i64 (r.getD (0,0)).2]
theorem GM{sc:List Dc}(h:o=[118,97,114]):QB sc (.mk o s z a l)=if JA sc s<0 then(0,a,5)else(JA sc s,0,0):=by rw[QB,if_pos h]
theorem Mf{sc:List Dc}(h:o=[110,117,109]):QB sc (.mk o s z a l)=(1,0,0):=by subst h;rw[QB,if_neg QT,if_pos rfl]
theorem Ig{sc:List Dc}{k:Nd}(h:o=[112,108,117,115]):QB sc (.mk o s z a [k])=if(QB sc k).2.2≠0 then(0,(QB sc k).2.1,(QB sc k).2.2)else if(QB sc k).1≠1 then(0,a,7)else(1,0,0):=by
 subst h;rw[QB,if_neg QT,if_neg QT,Zq,Zq]
 by_cases h1:(QB sc k).2.2≠0
 ·rw[if_pos h1,if_pos h1]
 ·rw[if_neg h1,if_neg h1,if_pos (Or.inl rfl)]
  by_cases h2:(QB sc k).1≠1
  ·rw[if_pos h2,if_pos h2];simp
  ·rw[if_neg h2,if_neg h2];simp
theorem GN{sc:List Dc}(h1: ¬o=[118,97,114])(h2: ¬o=[110,117,109])(h3: ¬o=[112,108,117,115]){w:Int}(hw:w=if o=[115,101,116]then 1 else 2):QB sc (.mk o s z a l)=match Zq sc false a w l with
  |some r=>(0,r.1,r.2)
  |none=>(2,0,0):=by
 rw[QB,if_neg h1,if_neg h2];simp[h3,hw]
 all_goals(cases Zq sc false a (if o=[115,101,116]then 1 else 2) l<;>rfl)

theorem vC{st:St}(hf:Qw st){sc:List Dc}{kd:AV}{ld:List (List AV)}(hD:Xi st.h.get sc kd ld){kk:AV}{ls:List (List AV)}(hK:Ed st.h.get l kk ls)(hTm: ∀k∈l,QO k=true)(w a:Int)(hC: ∀(k:Nd),k∈l→ ∀(st1:St) (cs:List AV),Qw st1→Xi st1.h.get sc kd ld→XE st1.h.get k cs→QO k=true→ ∃v st',Ev Tryz.prog QR 58 [kd,.agg cs] st1 v st'∧v=jY sc k∧Qt st1 st'): ∃v st',Ev Tryz.prog QR 77 [kd,kk,iZ w] st v st'∧v=eP (Zq sc false a w l)∧Qt st st':=by
 have hln:=hK.ln;have hbn:=hK.YZ;refine Yu Tryz.func77 Tryz.ntmps77 fun T K=>?_;have M:=Mem.start hf;refine Qc 3 K M fun _ K=>?_;refine p1 K (Jg QI rfl rfl hK.len) fun _ K=>?_;refine Qc 1 K M fun _ K=>?_;refine JQ (fun mm1 T st9=> ∃(i:Nat),mm1=l.length-i∧Jr [(0,kd),(2,iZ w),(13,kk),(14,iZ (l.length:Nat)),(15,iN i)] T∧Mem st.h.get st.n [] st9 []∧i≤l.length∧Zq sc false a w l=Zq sc false a w (l.drop i)) (fun mm1 T st9 hI=>?_) _ _ _ ⟨0,rfl,(K.sub rfl),M.less (.refl _),(Nat.zero_le _),(by rw[List.drop_zero])⟩;obtain⟨i,rfl,K,M,hi,hx⟩:=hI;refine Qc 1 K M fun _ K=>?_;refine Xj K rfl (fun h16=>?_) fun h16=>?_
 ·refine Qc 0 K M fun _ K=>?_;obtain⟨⟨o17,s17,z17,a17,l17⟩,hi17⟩: ∃k,l[i]? =some k:=⟨_,List.getElem?_eq_getElem (by first|omega|(have:=ZI ht (by assumption);omega))⟩;have hm17:=U7 hi17;obtain⟨_,hc17,hn17⟩:=hK.at_ _ _ hi17;have hp17:=hn17;obtain⟨kk17,ls17,rfl,hK17,hb17⟩:=hp17.Jn;refine OJ (hK.r.mem M Q3) hc17 K Jf Qv rfl rfl fun _ _ _ _ K=>?_;refine au 1 K M ?_;intro c9 _ _ K _ M;refine Qz (k:=0) K M rfl rfl rfl Qi rfl (Qa rfl (Qa rfl (Qa rfl (Qa rfl (Qa hK17.cell Qo))))) rfl fun _ M=>?_;refine Qc 2 K M fun _ K=>?_;refine oQ K M (hC _ hm17 _ _ M.fresh (Xi.mono M.rows hD) (hn17.mono M.rows) (hTm _ hm17)) rfl rfl fun _ _ K M=>?_;refine Qc 9 K M fun _ K=>?_;refine C5 K rfl (fun h27=>?_) fun h27=>?_
  ·refine Qc 4 K M ?_;exact⟨by rw[hx,Ih hi17,if_pos Qh];rfl,M.qt⟩
  refine Qc 3 K M fun _ K=>?_;refine C5 K rfl (fun h32=>?_) fun h32=>?_
  ·refine Qc 4 K M ?_;exact⟨by rw[hx,Ih hi17,if_neg Qh,if_pos Qh];rfl,M.qt⟩
  refine Qc 2 K M fun _ K=>?_;exact⟨_,Qh,i+1,rfl,(K.sub rfl),M.less (.cons _ (.refl _)),Qh,(by rw[hx,Ih hi17,if_neg Qh,if_neg Qh])⟩
 refine Jx ?_;show W _ _ _ _ _ _ _;refine Qc 2 K M ?_;exact⟨by rw[hx,UM Qh,Zq];rfl,M.qt⟩

theorem BX{sc:List Dc}{kd:AV}{ld:List (List AV)}(x:Nd): ∀(st:St) (cs:List AV),Qw st→Xi st.h.get sc kd ld→XE st.h.get x cs→QO x=true→ ∃v st',Ev Tryz.prog QR 58 [kd,.agg cs] st v st'∧v=jY sc x∧Qt st st':=by
 refine Uz (M:=fun x=> ∀(st:St) (cs:List AV),Qw st→Xi st.h.get sc kd ld→XE st.h.get x cs→QO x=true→ ∃v st',Ev Tryz.prog QR 58 [kd,.agg cs] st v st'∧v=jY sc x∧Qt st st') (fun o s z a l ih=>?_) x;intro st cs hf hD hr ht;have hr0:=hr;obtain⟨kk,ls,rfl,hK,hb⟩:=hr.Jn;have hln:=hK.ln;have hbn:=hK.YZ;refine Yu Tryz.func58 Tryz.ntmps58 fun T K=>?_;have M:=Mem.start hf;refine Qc 0 K M fun _ K=>?_;refine J3 K M rfl (Qa rfl (Qa rfl (Qa rfl (Qa rfl (Qa hK.cell Qo))))) QT fun c3 _ _ K M=>?_;refine Qc 5 K M fun _ K=>?_;refine p1 K (QU (b:=[118,97,114]) rfl rfl) fun _ K=>?_;refine Qc 1 K M fun _ K=>?_;refine Xj K rfl (fun h13=>?_) fun h13=>?_
 ·refine Qc 3 K M fun _ K=>?_;refine oQ K M (N8 M.fresh (Xi.mono M.rows hD) s) rfl rfl fun _ _ K M=>?_;refine Qc 3 K M fun _ K=>?_;refine Xj K rfl (fun h20=>?_) fun h20=>?_
  ·refine UR ?_;refine Ja (l:=[(0,0),(1,0),(2,0),(3,0),(4,0)]) (by kernel_rfl) ?_;refine Ui 5 K M fun _ K=>?_;refine Ji ?_;show W _ _ _ _ _ _ _;refine Jv ⟨.inr rfl,_,(Ua (QF K rfl) (QF K rfl) (QF K rfl)),?_⟩;refine⟨congrArg kT (a₁:=(0,a,5)) (a₂:=QB sc (.mk o s z a l)) (Eq.symm ?_),M.qt⟩;exact(GM (by assumption)).trans (if_pos Qh)
  refine Qc 4 K M fun _ K=>?_;refine Jv ⟨.inr rfl,_,(Ua (QF K rfl) (QF K rfl) (QF K rfl)),?_⟩;refine⟨congrArg kT (a₁:=(JA sc s,0,0)) (a₂:=QB sc (.mk o s z a l)) (Eq.symm ?_),M.qt⟩;exact(GM (by assumption)).trans (if_neg Qh)
 refine Qc 0 K M fun _ K=>?_;refine p1 K (QU (b:=[110,117,109]) rfl rfl) fun _ K=>?_;refine Qc 1 K M fun _ K=>?_;refine Xj K rfl (fun h24=>?_) fun h24=>?_
 ·refine Qc 3 K M fun _ K=>?_;refine Jv ⟨.inr rfl,_,(Ua (QF K rfl) (QF K rfl) (QF K rfl)),?_⟩;refine⟨congrArg kT (a₁:=(1,0,0)) (a₂:=QB sc (.mk o s z a l)) (Eq.symm ?_),M.qt⟩;exact Mf (by assumption)
 refine Qc 0 K M fun _ K=>?_;refine p1 K (QU (b:=[112,108,117,115]) rfl rfl) fun _ K=>?_;refine Qc 1 K M fun _ K=>?_;refine Xj K rfl (fun h26=>?_) fun h26=>?_
 ·refine Qc 3 K M fun _ K=>?_;obtain⟨⟨o32,s32,z32,a32,l32⟩,hi32⟩: ∃k,l[0]? =some k:=⟨_,List.getElem?_eq_getElem (by first|omega|(have:=ZI ht (by assumption);omega))⟩;have hm32:=U7 hi32;obtain⟨_,hc32,hn32⟩:=hK.at_ _ _ hi32;have hp32:=hn32;obtain⟨kk32,ls32,rfl,hK32,hb32⟩:=hp32.Jn;refine OJ (hK.r.mem M Q3) hc32 K Jf Qv rfl rfl fun _ _ _ _ K=>?_;refine oQ K M (ih _ hm32 _ _ M.fresh (Xi.mono M.rows hD) (hn32.mono M.rows) (Gt ht hm32)) rfl rfl fun _ _ K M=>?_;refine Qc 9 K M fun _ K=>?_;refine C5 K rfl (fun h39=>?_) fun h39=>?_
  ·refine Qc 5 K M fun _ K=>?_;refine Jv ⟨.inr rfl,_,(Ua (QF K rfl) (QF K rfl) (QF K rfl)),?_⟩;refine⟨congrArg kT (a₁:=(0,(QB sc (.mk o32 s32 z32 a32 l32)).2.1,(QB sc (.mk o32 s32 z32 a32 l32)).2.2)) (a₂:=QB sc (.mk o s z a l)) (Eq.symm ?_),M.qt⟩;rw[U9 (ZI ht (by assumption)) hi32];exact(Ig (by assumption)).trans (if_pos Qh)
  refine Qc 2 K M fun _ K=>?_;refine C5 K rfl (fun h43=>?_) fun h43=>?_
  ·refine UR ?_;refine Ja (l:=[(0,0),(1,0),(2,0),(3,0),(4,0)]) (by kernel_rfl) ?_;refine Ui 5 K M fun _ K=>?_;refine Ji ?_;show W _ _ _ _ _ _ _;refine Jv ⟨.inr rfl,_,(Ua (QF K rfl) (QF K rfl) (QF K rfl)),?_⟩;refine⟨congrArg kT (a₁:=(0,a,7)) (a₂:=QB sc (.mk o s z a l)) (Eq.symm ?_),M.qt⟩;rw[U9 (ZI ht (by assumption)) hi32];exact(Ig (by assumption)).trans ((if_neg Qh).trans (if_pos Qh))
  refine Qc 3 K M fun _ K=>?_;refine Jv ⟨.inr rfl,_,(Ua (QF K rfl) (QF K rfl) (QF K rfl)),?_⟩;refine⟨congrArg kT (a₁:=(1,0,0)) (a₂:=QB sc (.mk o s z a l)) (Eq.symm ?_),M.qt⟩;rw[U9 (ZI ht (by assumption)) hi32];exact(Ig (by assumption)).trans ((if_neg Qh).trans (if_neg Qh))
 refine JM ?_;show W _ _ _ _ _ _ _;refine UR<|Uf<|p1 K (JH rfl) fun _ K=>Y5 ?_;show W _ _ _ _ _ _ _;refine VY (J:=fun T st9=> ∃(w:Int),Jr [(0,kd),(3,.ptr c3 0 0),(4,iZ 0),(5,iZ 0),(6,iZ 0),(10,iZ w)] T∧Mem st.h.get st.n [] st9 [(c3,0,[.str o,.str s,iZ z,iZ a,kk])]∧w=if o=[115,101,116]then 1 else 2) ?_ (fun T st9 hJ=>?_)
 ·refine Qc 2 K M fun _ K=>?_;refine p1 K (QU (b:=[115,101,116]) rfl rfl) fun _ K=>?_;refine Qc 0 K M fun _ K=>?_;refine Xj K rfl (fun h48=>?_) fun h48=>?_
  ·refine Qc 1 K M fun _ K=>?_;exact⟨_,(K.sub rfl),M.less (.refl _),(by simp_all)⟩
  refine JM ?_;exact⟨_,(K.sub rfl),M.less (.refl _),(by simp_all)⟩
 obtain⟨w,K,M,hw⟩:=hJ;refine Qc 4 K M fun _ K=>?_;refine oQ K M (vC M.fresh (Xi.mono M.rows hD) (hK.mem M) (fun k hk=>Gt ht hk) w a (fun k hk st1 cs h1 h2 h3 h4=>ih _ hk st1 cs h1 h2 h3 h4)) rfl rfl fun _ _ K M=>?_;refine Qc 7 K M fun _ K=>?_;refine C5 K rfl (fun h58=>?_) fun h58=>?_
 ·refine Qc 5 K M fun _ K=>?_;refine Jv ⟨.inr rfl,_,(Ua (QF K rfl) (QF K rfl) (QF K rfl)),?_⟩;refine⟨congrArg kT (a₁:=(0,((Zq sc false a w l).getD (0,0)).1,((Zq sc false a w l).getD (0,0)).2)) (a₂:=QB sc (.mk o s z a l)) (Eq.symm ?_),M.qt⟩;rw[GN (by assumption) (by assumption) (by assumption) hw]
  cases hl:Zq sc false a w l with
  |none=>rw[hl]at h58;exact absurd rfl h58
  |some r=>rfl
 refine Qc 3 K M fun _ K=>?_;refine Jv ⟨.inr rfl,_,(Ua (QF K rfl) (QF K rfl) (QF K rfl)),?_⟩;refine⟨congrArg kT (a₁:=(2,0,0)) (a₂:=QB sc (.mk o s z a l)) (Eq.symm ?_),M.qt⟩;rw[GN (by assumption) (by assumption) (by assumption) hw]
 cases hl:Zq sc false a w l with
 |none=>rfl
 |some r=>rw[hl]at h58;exact absurd h58 (Mg hl)
end
section
open Go Go.RowKit

def pT(r:Int×Int):AV:=.tup [.int .i64 r.1,.int .i64 r.2]

end
section
open Go Go.RowKit
variable {h:Hp} {ls:List (List AV)} {n z:Nat}

noncomputable def uk(kb:AV)(n:Nat):AV:=match kb with
 |.sl c m off len z=>.sl c m off n z
 |_=>.nils
theorem zb{P:Program}{G:Env}{K:List (Nat×AV)}{st:St}{t:TypeId}{x:Operand}{hi:Option Operand}{kb:AV}{X:List Nat}(r:QS h X z ls kb)(h0:0<ls.length)(he:UA P t=some z)(hx:JF G K x=some kb)(hh:Xf (JF G K) hi ls.length=some n)(hn:n≤ls.length):
  YK P G K (.slice t x none hi none) st (uk kb n) st:=by
 obtain⟨c,m,off,cells,rfl,_⟩:=r.at_ 0 _ (List.getElem?_eq_getElem h0);have h1:=TL (st:=st) (lo:=none) he hx rfl hh (Nat.zero_le _) hn;rw[Nat.zero_mul,Nat.add_zero,Nat.sub_zero]at h1;exact h1
theorem yU{X:List Nat}{kb:AV}(r:QS h X z ls kb)(h0:0<ls.length)(hn:n≤ls.length):QS h X z (ls.take n) (uk kb n):=by
 obtain⟨c,m,off,cells,rfl,_⟩:=r.at_ 0 _ (List.getElem?_eq_getElem h0)
 have hl:(ls.take n).length=n:=by rw[List.length_take];omega
 have hb:=r.YZ;refine⟨by rw[hl];rfl,by rw[hl];omega,rfl,fun i cs hi=>?_,fun c' m' off' n' z' e'=>?_⟩
 ·have hlt:=(List.getElem?_eq_some_iff.1 hi).1;rw[hl]at hlt;rw[List.getElem?_take_of_lt hlt]at hi;obtain⟨c2,m2,off2,cells2,e1,e2,e3,e4,e5⟩:=r.at_ _ _ hi
  injection e1 with x1 x2 x3 x4 x5
  subst x1 x2 x3;exact⟨c,m,off,cells2,by rw[hl];rfl,e2,e3,e4,e5⟩
 ·injection e' with x1 x2 x3 x4 x5
  subst x1 x2 x3 x4;obtain⟨h1,cs,h2,h3⟩:=r.alive c m off _ z rfl;refine⟨h1,cs,h2,Nat.le_trans (Nat.add_le_add_left (Nat.mul_le_mul_right z hn) off) h3⟩
theorem VN.head{K:Type}{R:K→List AV→Prop}{l:List K}{kk:AV}(H:VN h z R l kk ls)(h0:0<l.length)(hn:n≤l.length):VN h z R (l.take n) (uk kk n) (ls.take n):=
 ⟨yU H.r (by rw[H.ln];exact h0) (by rw[H.ln];exact hn),by rw[List.length_take,List.length_take,H.ln],fun i k hi=>by
  have hlt:=(List.getElem?_eq_some_iff.1 hi).1;rw[List.length_take]at hlt;rw[List.getElem?_take_of_lt Qh]at hi;obtain⟨cs,h1,h2⟩:=H.at_ _ _ hi
  exact⟨cs,by rw[List.getElem?_take_of_lt Qh];exact h1,h2⟩⟩
end
section
open Go Go.RowKit

def twT(r:Option Int):AV:=match r with
 |some a=>.tup [.int .i64 a,.bool true]
 |none=>.tup [.int .i64 0,.bool false]
def eY(r:Option Int):AV:=match r with
 |some a=>.tup [.int .i64 a,.int .i64 6]
 |none=>.tup [.int .i64 0,.int .i64 0]

theorem ql{st:St}(hf:Qw st){l:List Dc}{kd:AV}{ld:List (List AV)}(hD:Xi st.h.get l kd ld): ∃v st',Ev Tryz.prog QR 14 [kd] st v st'∧v=eY (Ue [] l)∧Qt st st':=by
 have hln:=hD.ln;have hbn:=hD.YZ;refine Yu Tryz.func14 Tryz.ntmps14 fun T K=>?_;have M:=Mem.start hf;refine Qc 3 K M fun _ K=>?_;refine p1 K (Jg Ux rfl rfl hD.len) fun _ K=>?_;refine Qc 1 K M fun _ K=>?_;refine JQ (fun mm1 T st9=> ∃(i:Nat),mm1=l.length-i∧Jr [(0,kd),(6,kd),(7,iZ (l.length:Nat)),(8,iN i)] T∧Mem st.h.get st.n [] st9 []∧i≤l.length∧Ue [] l=Ue (l.take i) (l.drop i)) (fun mm1 T st9 hI=>?_) _ _ _ ⟨0,rfl,(K.sub rfl),M.less (.refl _),(Nat.zero_le _),rfl⟩;obtain⟨i,rfl,K,M,hi,hx⟩:=hI;refine Qc 1 K M fun _ K=>?_;refine Xj K rfl (fun h9=>?_) fun h9=>?_
 ·refine Qc 1 K M fun _ K=>?_;obtain⟨⟨dn11,do11,da11⟩,hi11⟩: ∃k,l[i]? =some k:=⟨_,List.getElem?_eq_getElem Qh⟩;have hm11:=Er hi11;obtain⟨_,hc11,rfl,hy11⟩:=hD.at_ _ _ hi11;refine OJ (hD.r.mem M Q3) hc11 K Zw VA rfl rfl fun _ _ _ _ K=>?_;refine au 3 K M ?_;intro c5 _ _ K _ M;refine Ja (l:=[(0,0),(1,0),(2,0),(3,0),(4,0),(5,0),(6,0)]) (by kernel_rfl) ?_;refine Ui 2 K M fun _ K=>?_;refine q1 rfl K (zb (n:=i) hD.r Qh Zw rfl rfl Qh) fun _ K=>?_;refine Ui 2 K M fun _ K=>?_;obtain⟨v18,st18,ev18,rfl,q18⟩:=N8 M.fresh (Xi.mono M.rows (VN.head hD (n:=i) Qh Qh)) dn11;refine qA rfl K (Qe rfl ev18) fun _ K=>?_;replace M:=M.quiet q18;refine q1 rfl K (N5 rfl rfl) fun _ K=>Ji ?_;show W _ _ _ _ _ _ _;refine Xj K rfl (fun h19=>?_) fun h19=>?_
  ·refine Qc 4 K M ?_;exact⟨by rw[hx,Ll hi11,if_pos Qh];rfl,M.qt⟩
  refine Qc 2 K M fun _ K=>?_;exact⟨_,Qh,i+1,rfl,(K.sub rfl),M.less (.cons _ (.refl _)),Qh,(by rw[hx,Ll hi11,if_neg Qh])⟩
 refine Jx ?_;show W _ _ _ _ _ _ _;refine Qc 2 K M ?_;exact⟨by rw[hx,UM Qh];rfl,M.qt⟩
end
section
open Go Go.RowKit

theorem GV{α:Type}(p:α→Bool): ∀(l:List α) (i:Nat),(Xa p l i= -1∧l.find? p=none)∨ ∃j k,Xa p l i=((i+j:Nat):Int)∧l[j]? =some k∧l.find? p=some k:=by
 intro l
 induction l with
 |nil=>intro i;exact .inl ⟨rfl,rfl⟩
 |cons k l ih=>
  intro i;rw[Xa,List.find?_cons]
  cases hp:p k with
  |true=>exact .inr ⟨0,k,by simp,rfl,rfl⟩
  |false=>
   rcases ih (i+1)with⟨h1,h2⟩|⟨j,q,h1,h2,h3⟩
   ·exact .inl ⟨by rw[if_neg QT];exact h1,h2⟩
   ·exact .inr ⟨j+1,q,by rw[if_neg QT,h1];congr 1;omega,h2,h3⟩
theorem RD{ps:List Pd}{sc:List Dc}{s:List Nat}{a:Int}{l:List Nd}(h:ps.find? (fun p=>decide (p.name=s))=none):XQ ps sc s a l=(a,5):=by unfold XQ;rw[h]
theorem AA{ps:List Pd}{sc:List Dc}{s:List Nat}{a:Int}{l:List Nd}{p:Pd}(h:ps.find? (fun p=>decide (p.name=s))=some p):XQ ps sc s a l=if p.params.length≠l.length then(a,7)else Aa sc a p.params l:=by unfold XQ;rw[h]

end
section
open Go
variable {G:Env} {K:List (Nat×AV)} {P:Program} {e t:TypeId} {n:Nat} {st:St} {x:Operand}

theorem XK{i:Operand}{c m off z:Nat}{k:IntKind}{j:Nat}(he:FI P t=some (n,e))(hz:P.cellsOf e=z)(hx:JF G K x=some (.ptr c m off))(hi:JF G K i=some (.int k (j:Int)))(hj:j<n):
  YK P G K (.indexAddr t x i) st (.ptr c m (off+j *z)) st:=.of fun T hT cc d ty pos af g=>by
 show ret (ob (Ug G T x) fun x=>ob (Ug G T i) fun i=>UF P t x i) st=_;rw[hT.Ug hx,hT.Ug hi,Q1,Q1];show ret (ob (AP (j:Int)) fun i=>ob (FI P t) fun q=>QZ (Nat.ble (i+1) q.1) (Ye (off+i *P.cellsOf q.2) fun o=>some (AV.ptr c m o))) st=_;show ret (ob (FI P t) fun q=>QZ (Nat.ble (j+1) q.1) (Ye (off+j *P.cellsOf q.2) fun o=>some (AV.ptr c m o))) st=_;rw[he,Q1];show ret (QZ (Nat.ble (j+1) n) (Ye (off+j *P.cellsOf e) fun o=>some (AV.ptr c m o))) st=_;rw[Nat.ble_eq_true_of_le hj,hz];show ret (Ye (off+j *z) fun o=>some (AV.ptr c m o)) st=_;rw[Ju];rfl
theorem Ew:FI Tryz.prog 100=some (2,3):=by kernel_rfl
theorem Xe:Program.cellsOf Tryz.prog 3=1:=by kernel_rfl
theorem IC:Tryz.prog.underlying 100=some (.array 2 3):=by kernel_rfl
theorem VF{parts:Array (Nat×Operand)}{k:Nat}{z r:List AV}{ps:List (Nat×AV)}(u:P.underlying t=some (.array n e))(ue:(P.underlying e).isSome=true)(hk:P.cellsOf e=k)(hz:zeroOf P t=some z)(hp:Xn (JF G K) parts=some ps)(hf:VH (fun i=>some (i *k,k)) ps z=some r):
  YK P G K (.build t parts) st (.agg r) st:=.of fun T hT c d ty pos af g=>by
 show ret (E8 P t parts (Ug G T)) st=_;unfold E8;simp only[u,ue,Jy,hz,Q1,hT.parts hp,hk,hf,Uy];rfl
theorem Nf:(Tryz.prog.underlying 3).isSome=true:=by kernel_rfl
theorem MB(a b x y:Int):Vp Tryz.prog 100 [.int .i64 a,.int .i64 b] [.int .i64 x,.int .i64 y]=some (Qp (OF a x) (OF b y) false):=by kernel_rfl
theorem TP{y:Operand}{yt:TypeId}{a b c d:Int}(hx:JF G K x=some (.agg [.int .i64 a,.int .i64 b]))(hy:JF G K y=some (.agg [.int .i64 c,.int .i64 d])):YK Tryz.prog G K (.binOp .eql 100 x y yt) st (.bool (decide ((a,b)=(c,d)))) st:=
 YS hx hy (by
  show ob (Vp Tryz.prog 100 [.int .i64 a,.int .i64 b] [.int .i64 c,.int .i64 d]) (fun r=>some (AV.bool r))=_;rw[MB,Kq,Kq,Q1]
  by_cases h1:a=c<;>by_cases h2:b=d<;>simp[h1,h2,QV,QN])
def w7:AV→Bool
 |.nils=>true
 |_=>false
theorem TO{yt:TypeId}{y:Operand}{kb:AV}(hn:XI kb=some n)(ht:P.underlying t=some (.slice e))(hx:JF G K x=some kb)(hy:JF G K y=some .nils):YK P G K (.binOp .eql t x y yt) st (.bool (w7 kb)) st:=
 YS hx hy (by
  cases kb<;>first|(cases hn;done)|skip
  all_goals
   show QZ (F9 (P.underlying t) _) (ob (F8 _ .nils) fun b=>some (AV.bool b))=_
   rw[ht];rfl)
theorem zm{kb:AV}(h:w7 kb=true):kb=.nils:=by cases kb<;>first|rfl|cases h
end
section
open Go Go.RowKit

def KK(o:List Nat):AV:=.agg [.int .i64 (Yn o).1,.int .i64 (Yn o).2]

theorem qf{st:St}(hf:Qw st)(o:List Nat): ∃v st',Ev Tryz.prog QR 59 [.str o] st v st'∧v=KK o∧Qt st st':=by
 refine Yu Tryz.func59 Tryz.ntmps59 fun T K=>?_;have M:=Mem.start hf;refine au 2 K M ?_;intro c2 _ _ K _ M;refine p1 K (QU (b:=[108,116]) rfl rfl) fun _ K=>?_;refine Qc 1 K M fun _ K=>?_;refine JU K rfl (fun h4=>?_) fun h4=>?_
 ·have hb4:=h4;replace h4:=of_decide_eq_true h4;refine Qc 0 K M fun _ K=>?_;refine Zz (t:=true) ((K.Ug rfl).trans (congrArg (fun b=>some (AV.bool b)) hb4)) (fun _=>?_) (fun h=>by cases h);refine Qc 0 K M fun _ K=>?_;refine p1 K (VF IC Nf Xe Wr rfl rfl) fun _ K=>?_;refine au 1 K M ?_;intro _ _ K _ M;refine Qc 0 K M ?_;refine⟨?_,M.qt⟩;unfold KK Yn
  simp_all
 have hb4:=h4;replace h4:=of_decide_eq_false h4;refine Uf<|p1 K (QU (b:=[108,101]) rfl rfl) fun _ K=>?_;refine Qc 1 K M fun _ K=>?_;refine JU K rfl (fun h4=>?_) fun h4=>?_
 ·have hb4:=h4;replace h4:=of_decide_eq_true h4;refine Qc 0 K M fun _ K=>?_;refine p1 K (VF IC Nf Xe Wr rfl rfl) fun _ K=>?_;refine au 1 K M ?_;intro _ _ K _ M;refine Qc 0 K M ?_;refine⟨?_,M.qt⟩;unfold KK Yn
  simp_all
 have hb4:=h4;replace h4:=of_decide_eq_false h4;refine Qc 0 K M fun _ K=>?_;refine p1 K (QU (b:=[105,110]) rfl rfl) fun _ K=>?_;refine Qc 1 K M fun _ K=>?_;refine JU K rfl (fun h8=>?_) fun h8=>?_
 ·have hb8:=h8;replace h8:=of_decide_eq_true h8;refine Qc 0 K M fun _ K=>?_;refine Zz (t:=true) ((K.Ug rfl).trans (congrArg (fun b=>some (AV.bool b)) hb8)) (fun _=>?_) (fun h=>by cases h);refine Qc 0 K M fun _ K=>?_;refine p1 K (VF IC Nf Xe Wr rfl rfl) fun _ K=>?_;refine au 1 K M ?_;intro _ _ K _ M;refine Qc 0 K M ?_;refine⟨?_,M.qt⟩;unfold KK Yn
  simp_all
 have hb8:=h8;replace h8:=of_decide_eq_false h8;refine Uf<|p1 K (QU (b:=[110,111,116,105,110]) rfl rfl) fun _ K=>?_;refine Qc 1 K M fun _ K=>?_;refine JU K rfl (fun h8=>?_) fun h8=>?_
 ·have hb8:=h8;replace h8:=of_decide_eq_true h8;refine Qc 0 K M fun _ K=>?_;refine p1 K (VF IC Nf Xe Wr rfl rfl) fun _ K=>?_;refine au 1 K M ?_;intro _ _ K _ M;refine Qc 0 K M ?_;refine⟨?_,M.qt⟩;unfold KK Yn
  simp_all
 have hb8:=h8;replace h8:=of_decide_eq_false h8;refine Qc 0 K M fun _ K=>?_;refine p1 K (VF IC Nf Xe Wr rfl rfl) fun _ K=>?_;refine au 1 K M ?_;intro _ _ K _ M;refine Qc 0 K M ?_;refine⟨?_,M.qt⟩;unfold KK Yn
 simp_all
end
end Go.Proofs.YtaomhhkflohhgaaGreatDoor
