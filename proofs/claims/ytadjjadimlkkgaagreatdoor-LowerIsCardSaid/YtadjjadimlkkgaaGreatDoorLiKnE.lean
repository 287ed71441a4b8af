/-
  Kinds of formulas: two terms, the reference's answer.
-/
import Derived.Test.YtadjjadimlkkgaaGreatDoorLiKnB
set_option linter.unnecessarySimpa false
set_option linter.unusedSimpArgs false
set_option linter.unusedVariables false
section
namespace Go.Proofs.YtadjjadimlkkgaaGreatDoor
open Go Go.RowKit
set_option maxHeartbeats 8000000
set_option maxRecDepth 100000

def pT(r:Int×Int):AV:=.tup [.int .i64 r.1,.int .i64 r.2]

end Go.Proofs.YtadjjadimlkkgaaGreatDoor
end
section
namespace Go.Proofs.YtadjjadimlkkgaaGreatDoor
open Go Go.RowKit

noncomputable def SR(kb:AV)(n:Nat):AV:=match kb with
 |.sl c m off len z=>.sl c m off n z
 |_=>.nils
theorem MK{P:Program}{G:Env}{K:List (Nat×AV)}{st:St}{h:Hp}{t:TypeId}{x:Operand}{hi:Option Operand}{kb:AV}{X:List Nat}{z n:Nat}{ls:List (List AV)}(r:VK h X z ls kb)(h0:0<ls.length)(he:JI P t=some z)(hx:Jy G K x=some kb)(hh:Ym (Jy G K) hi ls.length=some n)(hn:n≤ls.length):
  Z1 P G K (.slice t x none hi none) st (SR kb n) st:=by
 obtain⟨c,m,off,cells,rfl,_⟩:=r.at_ 0 _ (List.getElem?_eq_getElem h0);have h1:=Ek (st:=st) (lo:=none) he hx rfl hh (Nat.zero_le _) hn;rw[Nat.zero_mul,Nat.add_zero,Nat.sub_zero]at h1;exact h1
theorem M4{h:Hp}{X:List Nat}{z n:Nat}{ls:List (List AV)}{kb:AV}(r:VK h X z ls kb)(h0:0<ls.length)(hn:n≤ls.length):VK h X z (ls.take n) (SR kb n):=by
 obtain⟨c,m,off,cells,rfl,_⟩:=r.at_ 0 _ (List.getElem?_eq_getElem h0)
 have hl:(ls.take n).length=n:=by rw[List.length_take];omega
 have hb:=r.UK;refine⟨by rw[hl];rfl,by rw[hl];omega,rfl,fun i cs hi=>?_,fun c' m' off' n' z' e'=>?_⟩
 ·have hlt:=(List.getElem?_eq_some_iff.1 hi).1;rw[hl]at hlt;rw[List.getElem?_take_of_lt hlt]at hi;obtain⟨c2,m2,off2,cells2,e1,e2,e3,e4,e5⟩:=r.at_ _ _ hi
  injection e1 with x1 x2 x3 x4 x5
  subst x1 x2 x3;exact⟨c,m,off,cells2,by rw[hl];rfl,e2,e3,e4,e5⟩
 ·injection e' with x1 x2 x3 x4 x5
  subst x1 x2 x3 x4;obtain⟨h1,cs,h2,h3⟩:=r.alive c m off _ z rfl;refine⟨h1,cs,h2,Nat.le_trans (Nat.add_le_add_left (Nat.mul_le_mul_right z hn) off) h3⟩
theorem Z8.head{K:Type}{h:Hp}{z n:Nat}{R:K→List AV→Prop}{l:List K}{kk:AV}{ls:List (List AV)}(H:Z8 h z R l kk ls)(h0:0<l.length)(hn:n≤l.length):Z8 h z R (l.take n) (SR kk n) (ls.take n):=
 ⟨M4 H.r (by rw[H.ln];exact h0) (by rw[H.ln];exact hn),by rw[List.length_take,List.length_take,H.ln],fun i k hi=>by
  have hlt:=(List.getElem?_eq_some_iff.1 hi).1;rw[List.length_take]at hlt;rw[List.getElem?_take_of_lt (by omega)]at hi;obtain⟨cs,h1,h2⟩:=H.at_ _ _ hi
  exact⟨cs,by rw[List.getElem?_take_of_lt (by omega)];exact h1,h2⟩⟩
end Go.Proofs.YtadjjadimlkkgaaGreatDoor
end
section
namespace Go.Proofs.YtadjjadimlkkgaaGreatDoor
open Go Go.RowKit
set_option maxHeartbeats 8000000
set_option maxRecDepth 100000

def twT(r:Option Int):AV:=match r with
 |some a=>.tup [.int .i64 a,.bool true]
 |none=>.tup [.int .i64 0,.bool false]
def zx(r:Option Int):AV:=match r with
 |some a=>.tup [.int .i64 a,.int .i64 6]
 |none=>.tup [.int .i64 0,.int .i64 0]

theorem Ry{st:St}(hf:Qx st){l:List Dc}{kd:AV}{ld:List (List AV)}(hD:Y8 st.h.get l kd ld): ∃v st',Ev Tryz.prog QT 44 [kd] st v st'∧v=zx (JO [] l)∧Qt st st':=by
 have hln:=hD.ln;have hbn:=hD.UK;refine Q6 rfl Tryz.func44 rfl Tryz.ntmps44 rfl fun T hT=>?_;have K:Jf [(0,_)] T:=(.cons (hT 0) .nil);have M:=Mem.start hf;refine Qg 3 K M ?_;intro _ K;refine o1 K (QF JL rfl rfl hD.len) rfl fun _ K=>?_;refine Qg 1 K M ?_;intro _ K;refine UW (fun mm1 T st9=> ∃(i:Nat),mm1=l.length-i∧Jf [(0,kd),(6,kd),(7,.int .i64 (((l.length:Nat):Int))),(8,.int .i64 (((i:Nat):Int)))] T∧Mem st.h.get st.n [] st9 []∧i≤l.length∧JO [] l=JO (l.take i) (l.drop i)) (fun mm1 T st9 hI=>?_) _ _ _ ⟨0,rfl,(.cons (K _ _ rfl) (.cons (K _ _ rfl) (.cons (K _ _ rfl) (.cons (K _ _ rfl) .nil)))),M.less (.refl _),(Nat.zero_le _),rfl⟩;obtain⟨i,rfl,K,M,hi,hx⟩:=hI;refine Qg 1 K M ?_;intro _ K;refine YI K rfl (fun h9=>?_) fun h9=>?_
 ·refine Qg 1 K M ?_;intro _ K;obtain⟨⟨dn11,do11,da11⟩,hi11⟩: ∃k,l[i]? =some k:=⟨_,List.getElem?_eq_getElem (by omega)⟩;have hm11:=XV hi11;obtain⟨_,hc11,rfl,hy11⟩:=hD.at_ _ _ hi11;obtain⟨x11,m11,f11,q11,_,la11,lo11,lp11⟩:=(hD.r.mem M (by simp)).load (i:=i) (cs:=_) hc11;refine o1 K (Qe (j:=i) Yf (congrArg some q11) rfl (by rw[hD.ln];omega)) rfl fun _ K=>o1 K (Qr rfl (la11 _ ZN)) rfl fun _ K=>?_;refine au 3 K M ?_;intro c5 _ _ K _ M;refine JC (l:=[(0,0),(1,0),(2,0),(3,0),(4,0),(5,0),(6,0)]) (by kernel_rfl) ?_;refine d1 rfl K (Qc rfl) rfl rfl fun _ K=>d1 rfl K (Qc rfl) rfl rfl fun _ K=>d1 rfl K (MK (n:=i) hD.r (by omega) Yf rfl rfl (by omega)) rfl rfl fun _ K=>d1 rfl K (QZ Vn rfl) rfl rfl fun _ K=>d1 rfl K (Qr rfl (M.load (k:=0) rfl (Qw QY rfl))) rfl rfl fun _ K=>?_;obtain⟨v18,st18,ev18,rfl,q18⟩:=I0 M.fresh (Y8.mono M.rows (Z8.head hD (n:=i) (by omega) (by omega))) dn11;refine dA rfl K (Ql rfl ev18) rfl rfl fun _ K=>?_;replace M:=M.quiet q18;refine d1 rfl K (BH rfl rfl) rfl rfl fun _ K=>Ui ?_;show W _ _ _ _ _ _ _;refine YI K rfl (fun h19=>?_) fun h19=>?_
  ·refine Qg 4 K M ?_;intro _ K;refine Qf ⟨.inr rfl,_,VJ K rfl rfl,?_⟩;exact⟨by rw[hx,FI hi11,if_pos (by omega)];rfl,M.qt⟩
  refine QU ?_;show W _ _ _ _ _ _ _;refine Qb<|o1 K (Jo rfl rfl (by omega) (by omega)) rfl fun _ K=>o1 K (Qc rfl) rfl fun _ K=>QG ?_;exact⟨_,(by omega),i+1,rfl,(.cons (K _ _ rfl) (.cons (K _ _ rfl) (.cons (K _ _ rfl) (.cons (K _ _ rfl) .nil)))),M.less (.cons _ (.refl _)),(by omega),(by rw[hx,FI hi11,if_neg (by omega)])⟩
 refine Uq ?_;show W _ _ _ _ _ _ _;refine Qg 2 K M ?_;intro _ K;refine Qf ⟨.inr rfl,_,VJ K rfl rfl,?_⟩;exact⟨by rw[hx,Un (by omega)];rfl,M.qt⟩
end Go.Proofs.YtadjjadimlkkgaaGreatDoor
end
