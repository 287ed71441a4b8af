/-
  Kinds of formulas: two terms, the reference's answer.
-/
import Derived.Test.YtadjjadimlkkgaaGreatDoorMnKnB
set_option linter.unnecessarySimpa false
set_option linter.unusedSimpArgs false
set_option linter.unusedVariables false
section
namespace Go.Proofs.YtadjjadimlkkgaaGreatDoor
open Go Go.RowKit
set_option maxHeartbeats 8000000
set_option maxRecDepth 100000

def pT(r:Int×Int):AV:=.tup [.int .i64 r.1,.int .i64 r.2]

end Go.Proofs.YtadjjadimlkkgaaGreatDoor
end
section
namespace Go.Proofs.YtadjjadimlkkgaaGreatDoor
open Go Go.RowKit

noncomputable def Mu(kb:AV)(n:Nat):AV:=match kb with
 |.sl c m off len z=>.sl c m off n z
 |_=>.nils
theorem jf{P:Program}{G:Env}{K:List (Nat×AV)}{st:St}{h:Hp}{t:TypeId}{x:Operand}{hi:Option Operand}{kb:AV}{X:List Nat}{z n:Nat}{ls:List (List AV)}(r:Un h X z ls kb)(h0:0<ls.length)(he:Ua P t=some z)(hx:Jq G K x=some kb)(hh:Y0 (Jq G K) hi ls.length=some n)(hn:n≤ls.length):
  Zo P G K (.slice t x none hi none) st (Mu kb n) st:=by
 obtain⟨c,m,off,cells,rfl,_⟩:=r.at_ 0 _ (List.getElem?_eq_getElem h0);have h1:=Nk (st:=st) (lo:=none) he hx rfl hh (Nat.zero_le _) hn;rw[Nat.zero_mul,Nat.add_zero,Nat.sub_zero]at h1;exact h1
theorem qZ{h:Hp}{X:List Nat}{z n:Nat}{ls:List (List AV)}{kb:AV}(r:Un h X z ls kb)(h0:0<ls.length)(hn:n≤ls.length):Un h X z (ls.take n) (Mu kb n):=by
 obtain⟨c,m,off,cells,rfl,_⟩:=r.at_ 0 _ (List.getElem?_eq_getElem h0)
 have hl:(ls.take n).length=n:=by rw[List.length_take];omega
 have hb:=r.Uj;refine⟨by rw[hl];rfl,by rw[hl];omega,rfl,fun i cs hi=>?_,fun c' m' off' n' z' e'=>?_⟩
 ·have hlt:=(List.getElem?_eq_some_iff.1 hi).1;rw[hl]at hlt;rw[List.getElem?_take_of_lt hlt]at hi;obtain⟨c2,m2,off2,cells2,e1,e2,e3,e4,e5⟩:=r.at_ _ _ hi
  injection e1 with x1 x2 x3 x4 x5
  subst x1 x2 x3;exact⟨c,m,off,cells2,by rw[hl];rfl,e2,e3,e4,e5⟩
 ·injection e' with x1 x2 x3 x4 x5
  subst x1 x2 x3 x4;obtain⟨h1,cs,h2,h3⟩:=r.alive c m off _ z rfl;refine⟨h1,cs,h2,Nat.le_trans (Nat.add_le_add_left (Nat.mul_le_mul_right z hn) off) h3⟩
theorem Xf.head{K:Type}{h:Hp}{z n:Nat}{R:K→List AV→Prop}{l:List K}{kk:AV}{ls:List (List AV)}(H:Xf h z R l kk ls)(h0:0<l.length)(hn:n≤l.length):Xf h z R (l.take n) (Mu kk n) (ls.take n):=
 ⟨qZ H.r (by rw[H.ln];exact h0) (by rw[H.ln];exact hn),by rw[List.length_take,List.length_take,H.ln],fun i k hi=>by
  have hlt:=(List.getElem?_eq_some_iff.1 hi).1;rw[List.length_take]at hlt;rw[List.getElem?_take_of_lt (by omega)]at hi;obtain⟨cs,h1,h2⟩:=H.at_ _ _ hi
  exact⟨cs,by rw[List.getElem?_take_of_lt (by omega)];exact h1,h2⟩⟩
end Go.Proofs.YtadjjadimlkkgaaGreatDoor
end
section
namespace Go.Proofs.YtadjjadimlkkgaaGreatDoor
open Go Go.RowKit
set_option maxHeartbeats 8000000
set_option maxRecDepth 100000

def twT(r:Option Int):AV:=match r with
 |some a=>.tup [.int .i64 a,.bool true]
 |none=>.tup [.int .i64 0,.bool false]
def vj(r:Option Int):AV:=match r with
 |some a=>.tup [.int .i64 a,.int .i64 6]
 |none=>.tup [.int .i64 0,.int .i64 0]

theorem Sz{st:St}(hf:Qu st){l:List Dc}{kd:AV}{ld:List (List AV)}(hD:Y1 st.h.get l kd ld): ∃v st',Ev Tryz.prog QU 44 [kd] st v st'∧v=vj (Jx [] l)∧Qt st st':=by
 have hln:=hD.ln;have hbn:=hD.Uj;refine QE rfl Tryz.func44 rfl Tryz.ntmps44 rfl fun T hT=>?_;have K:QT [(0,_)] T:=(.cons (hT 0) .nil);have M:=Mem.start hf;refine Qf 3 K M ?_;intro _ K;refine o1 K (QL JM rfl rfl hD.len) rfl fun _ K=>?_;refine Qf 1 K M ?_;intro _ K;refine JN (fun mm1 T st9=> ∃(i:Nat),mm1=l.length-i∧QT [(0,kd),(6,kd),(7,.int .i64 (((l.length:Nat):Int))),(8,.int .i64 (((i:Nat):Int)))] T∧Mem st.h.get st.n [] st9 []∧i≤l.length∧Jx [] l=Jx (l.take i) (l.drop i)) (fun mm1 T st9 hI=>?_) _ _ _ ⟨0,rfl,(.cons (K _ _ rfl) (.cons (K _ _ rfl) (.cons (K _ _ rfl) (.cons (K _ _ rfl) .nil)))),M.less (.refl _),(Nat.zero_le _),rfl⟩;obtain⟨i,rfl,K,M,hi,hx⟩:=hI;refine Qf 1 K M ?_;intro _ K;refine Xo K rfl (fun h9=>?_) fun h9=>?_
 ·refine Qf 1 K M ?_;intro _ K;obtain⟨⟨dn11,do11,da11⟩,hi11⟩: ∃k,l[i]? =some k:=⟨_,List.getElem?_eq_getElem (by omega)⟩;have hm11:=ZP hi11;obtain⟨_,hc11,rfl,hy11⟩:=hD.at_ _ _ hi11;obtain⟨x11,m11,f11,q11,_,la11,lo11,lp11⟩:=(hD.r.mem M (by simp)).load (i:=i) (cs:=_) hc11;refine o1 K (Qj (j:=i) Yp (congrArg some q11) rfl (by rw[hD.ln];omega)) rfl fun _ K=>o1 K (Qr rfl (la11 _ Xw)) rfl fun _ K=>?_;refine au 3 K M ?_;intro c5 _ _ K _ M;refine Up (l:=[(0,0),(1,0),(2,0),(3,0),(4,0),(5,0),(6,0)]) (by kernel_rfl) ?_;refine d1 rfl K (Qd rfl) rfl rfl fun _ K=>d1 rfl K (Qd rfl) rfl rfl fun _ K=>d1 rfl K (jf (n:=i) hD.r (by omega) Yp rfl rfl (by omega)) rfl rfl fun _ K=>d1 rfl K (Qw Ay rfl) rfl rfl fun _ K=>d1 rfl K (Qr rfl (M.load (k:=0) rfl (QA QN rfl))) rfl rfl fun _ K=>?_;obtain⟨v18,st18,ev18,rfl,q18⟩:=Kl M.fresh (Y1.mono M.rows (Xf.head hD (n:=i) (by omega) (by omega))) dn11;refine dA rfl K (Ql rfl ev18) rfl rfl fun _ K=>?_;replace M:=M.quiet q18;refine d1 rfl K (O1 rfl rfl) rfl rfl fun _ K=>UG ?_;show W _ _ _ _ _ _ _;refine Xo K rfl (fun h19=>?_) fun h19=>?_
  ·refine Qf 4 K M ?_;intro _ K;refine Qe ⟨.inr rfl,_,Wy K rfl rfl,?_⟩;exact⟨by rw[hx,HW hi11,if_pos (by omega)];rfl,M.qt⟩
  refine Q8 ?_;show W _ _ _ _ _ _ _;refine Qb<|o1 K (Jf rfl rfl (by omega) (by omega)) rfl fun _ K=>o1 K (Qd rfl) rfl fun _ K=>Qy ?_;exact⟨_,(by omega),i+1,rfl,(.cons (K _ _ rfl) (.cons (K _ _ rfl) (.cons (K _ _ rfl) (.cons (K _ _ rfl) .nil)))),M.less (.cons _ (.refl _)),(by omega),(by rw[hx,HW hi11,if_neg (by omega)])⟩
 refine J7 ?_;show W _ _ _ _ _ _ _;refine Qf 2 K M ?_;intro _ K;refine Qe ⟨.inr rfl,_,Wy K rfl rfl,?_⟩;exact⟨by rw[hx,Jo (by omega)];rfl,M.qt⟩
end Go.Proofs.YtadjjadimlkkgaaGreatDoor
end
section
namespace Go.Proofs.YtadjjadimlkkgaaGreatDoor
open Go Go.RowKit
set_option maxHeartbeats 8000000
set_option maxRecDepth 100000

theorem N8{α:Type}(p:α→Bool): ∀(l:List α) (i:Nat),(YN p l i= -1∧l.find? p=none)∨ ∃j k,YN p l i=((i+j:Nat):Int)∧l[j]? =some k∧l.find? p=some k:=by
 intro l
 induction l with
 |nil=>intro i;exact .inl ⟨rfl,rfl⟩
 |cons k l ih=>
  intro i;rw[YN,List.find?_cons]
  cases hp:p k with
  |true=>exact .inr ⟨0,k,by simp,rfl,rfl⟩
  |false=>
   rcases ih (i+1)with⟨h1,h2⟩|⟨j,q,h1,h2,h3⟩
   ·exact .inl ⟨by rw[if_neg (by decide)];exact h1,h2⟩
   ·exact .inr ⟨j+1,q,by rw[if_neg (by decide),h1];congr 1;omega,h2,h3⟩
theorem Dt{ps:List Pd}{sc:List Dc}{s:List Nat}{a:Int}{l:List Nd}(h:ps.find? (fun p=>decide (p.name=s))=none):Z9 ps sc s a l=(a,5):=by unfold Z9;rw[h]
theorem WU{ps:List Pd}{sc:List Dc}{s:List Nat}{a:Int}{l:List Nd}{p:Pd}(h:ps.find? (fun p=>decide (p.name=s))=some p):Z9 ps sc s a l=if p.params.length≠l.length then(a,7)else Wv sc a p.params l:=by unfold Z9;rw[h]

end Go.Proofs.YtadjjadimlkkgaaGreatDoor
end
section
namespace Go.Proofs.YtadjjadimlkkgaaGreatDoor
open Go

theorem Z4{P:Program}{G:Env}{K:List (Nat×AV)}{st:St}{t e:TypeId}{x i:Operand}{c m off n z:Nat}{k:IntKind}{j:Nat}(he:EP P t=some (n,e))(hz:P.cellsOf e=z)(hx:Jq G K x=some (.ptr c m off))(hi:Jq G K i=some (.int k (j:Int)))(hj:j<n):
  Zo P G K (.indexAddr t x i) st (.ptr c m (off+j *z)) st:=.of fun T hT cc d ty pos af g=>by
 show ret (ob (QF G T x) fun x=>ob (QF G T i) fun i=>Jy P t x i) st=_;rw[hT.QF hx,hT.QF hi,Qh,Qh];show ret (ob (El (j:Int)) fun i=>ob (EP P t) fun q=>QD (Nat.ble (i+1) q.1) (JP (off+i *P.cellsOf q.2) fun o=>some (AV.ptr c m o))) st=_;show ret (ob (EP P t) fun q=>QD (Nat.ble (j+1) q.1) (JP (off+j *P.cellsOf q.2) fun o=>some (AV.ptr c m o))) st=_;rw[he,Qh];show ret (QD (Nat.ble (j+1) n) (JP (off+j *P.cellsOf e) fun o=>some (AV.ptr c m o))) st=_;rw[Nat.ble_eq_true_of_le hj,hz];show ret (JP (off+j *z) fun o=>some (AV.ptr c m o)) st=_;rw[QQ];rfl
theorem VE:EP Tryz.prog 164=some (2,3):=by kernel_rfl
theorem YR:Program.cellsOf Tryz.prog 3=1:=by kernel_rfl
theorem Fs:Tryz.prog.underlying 164=some (.array 2 3):=by kernel_rfl
theorem Xy{P:Program}{G:Env}{K:List (Nat×AV)}{st:St}{t e:TypeId}{parts:Array (Nat×Operand)}{n k:Nat}{z r:List AV}{ps:List (Nat×AV)}(u:P.underlying t=some (.array n e))(ue:(P.underlying e).isSome=true)(hk:P.cellsOf e=k)(hz:zeroOf P t=some z)(hp:ZL (Jq G K) parts=some ps)(hf:Wn (fun i=>some (i *k,k)) ps z=some r):
  Zo P G K (.build t parts) st (.agg r) st:=.of fun T hT c d ty pos af g=>by
 show ret (VU P t parts (QF G T)) st=_;unfold VU;simp only[u,ue,QR,hz,Qh,hT.parts hp,hk,hf,JD];rfl
theorem IP:(Tryz.prog.underlying 3).isSome=true:=by kernel_rfl
theorem RG(a b x y:Int):Xd Tryz.prog 164 [.int .i64 a,.int .i64 b] [.int .i64 x,.int .i64 y]=some (Qg (ID a x) (ID b y) false):=by kernel_rfl
theorem Rb{G:Env}{K:List (Nat×AV)}{st:St}{x y:Operand}{yt:TypeId}{a b c d:Int}(hx:Jq G K x=some (.agg [.int .i64 a,.int .i64 b]))(hy:Jq G K y=some (.agg [.int .i64 c,.int .i64 d])):Zo Tryz.prog G K (.binOp .eql 164 x y yt) st (.bool (decide ((a,b)=(c,d)))) st:=
 YU hx hy (by
  show ob (Xd Tryz.prog 164 [.int .i64 a,.int .i64 b] [.int .i64 c,.int .i64 d]) (fun r=>some (AV.bool r))=_;rw[RG,FP,FP,Qh]
  by_cases h1:a=c<;>by_cases h2:b=d<;>simp[h1,h2,QB,Q3])
def zH:AV→Bool
 |.nils=>true
 |_=>false
theorem Ra{P:Program}{G:Env}{K:List (Nat×AV)}{st:St}{t yt e:TypeId}{x y:Operand}{kb:AV}{n:Nat}(hn:ZH kb=some n)(ht:P.underlying t=some (.slice e))(hx:Jq G K x=some kb)(hy:Jq G K y=some .nils):Zo P G K (.binOp .eql t x y yt) st (.bool (zH kb)) st:=
 YU hx hy (by
  cases kb<;>first|(cases hn;done)|skip
  all_goals
   show QD (AY (P.underlying t) _) (ob (Az _ .nils) fun b=>some (AV.bool b))=_
   rw[ht];rfl)
theorem jn{kb:AV}(h:zH kb=true):kb=.nils:=by cases kb<;>first|rfl|cases h
end Go.Proofs.YtadjjadimlkkgaaGreatDoor
end
section
namespace Go.Proofs.YtadjjadimlkkgaaGreatDoor
open Go Go.RowKit
set_option maxHeartbeats 8000000
set_option maxRecDepth 100000

def Hg(o:List Nat):AV:=.agg [.int .i64 (Uo o).1,.int .i64 (Uo o).2]

theorem Sq{st:St}(hf:Qu st)(o:List Nat): ∃v st',Ev Tryz.prog QU 147 [.str o] st v st'∧v=Hg o∧Qt st st':=by
 refine QE rfl Tryz.func147 rfl Tryz.ntmps147 rfl fun T hT=>?_;have K:QT [(0,_)] T:=(.cons (hT 0) .nil);have M:=Mem.start hf;refine au 2 K M ?_;intro c2 _ _ K _ M;refine o1 K (QC (b:=[108,116]) rfl rfl) rfl fun _ K=>?_;refine Qf 1 K M ?_;intro _ K;refine Qm (K.QF rfl) (fun h4=>?_) (fun h4=>?_)
 ·have hb4:=h4;replace h4:=of_decide_eq_true h4;refine Q8 ?_;show W _ _ _ _ _ _ _;refine Qm (t:=true) ((K.QF rfl).trans (congrArg (fun b=>some (AV.bool b)) hb4)) (fun _=>?_) (fun h=>by cases h);refine Qn<|Qb<|o1 K (Xy Fs IP YR XR rfl rfl) rfl fun _ K=>?_;refine au 1 K M ?_;intro _ _ K _ M;refine Qe ⟨.inr rfl,_,Iy 0 K M rfl rfl rfl,?_⟩;refine⟨?_,M.qt⟩;unfold Hg Uo
  simp_all
 have hb4:=h4;replace h4:=of_decide_eq_false h4;refine Qb<|o1 K (QC (b:=[108,101]) rfl rfl) rfl fun _ K=>?_;refine Qf 1 K M ?_;intro _ K;refine Qm (K.QF rfl) (fun h4=>?_) (fun h4=>?_)
 ·have hb4:=h4;replace h4:=of_decide_eq_true h4;refine Qn<|Qb<|o1 K (Xy Fs IP YR XR rfl rfl) rfl fun _ K=>?_;refine au 1 K M ?_;intro _ _ K _ M;refine Qe ⟨.inr rfl,_,Iy 0 K M rfl rfl rfl,?_⟩;refine⟨?_,M.qt⟩;unfold Hg Uo
  simp_all
 have hb4:=h4;replace h4:=of_decide_eq_false h4;refine Qn<|Qn<|Qb<|o1 K (QC (b:=[105,110]) rfl rfl) rfl fun _ K=>?_;refine Qf 1 K M ?_;intro _ K;refine Qm (K.QF rfl) (fun h8=>?_) (fun h8=>?_)
 ·have hb8:=h8;replace h8:=of_decide_eq_true h8;refine Q8 ?_;show W _ _ _ _ _ _ _;refine Qm (t:=true) ((K.QF rfl).trans (congrArg (fun b=>some (AV.bool b)) hb8)) (fun _=>?_) (fun h=>by cases h);refine Qn<|Qb<|o1 K (Xy Fs IP YR XR rfl rfl) rfl fun _ K=>?_;refine au 1 K M ?_;intro _ _ K _ M;refine Qe ⟨.inr rfl,_,Iy 0 K M rfl rfl rfl,?_⟩;refine⟨?_,M.qt⟩;unfold Hg Uo
  simp_all
 have hb8:=h8;replace h8:=of_decide_eq_false h8;refine Qb<|o1 K (QC (b:=[110,111,116,105,110]) rfl rfl) rfl fun _ K=>?_;refine Qf 1 K M ?_;intro _ K;refine Qm (K.QF rfl) (fun h8=>?_) (fun h8=>?_)
 ·have hb8:=h8;replace h8:=of_decide_eq_true h8;refine Qn<|Qb<|o1 K (Xy Fs IP YR XR rfl rfl) rfl fun _ K=>?_;refine au 1 K M ?_;intro _ _ K _ M;refine Qe ⟨.inr rfl,_,Iy 0 K M rfl rfl rfl,?_⟩;refine⟨?_,M.qt⟩;unfold Hg Uo
  simp_all
 have hb8:=h8;replace h8:=of_decide_eq_false h8;refine Q8 ?_;show W _ _ _ _ _ _ _;refine Qn<|Qb<|o1 K (Xy Fs IP YR XR rfl rfl) rfl fun _ K=>?_;refine au 1 K M ?_;intro _ _ K _ M;refine Qe ⟨.inr rfl,_,Iy 0 K M rfl rfl rfl,?_⟩;refine⟨?_,M.qt⟩;unfold Hg Uo
 simp_all
end Go.Proofs.YtadjjadimlkkgaaGreatDoor
end
