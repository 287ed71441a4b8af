/-
  Calls of formulas with names: the reference's answer.
-/
import Derived.Test.YtadjjadimlkkgaaGreatDoorLiKnE
set_option linter.unnecessarySimpa false
set_option linter.unusedSimpArgs false
set_option linter.unusedVariables false
section
namespace Go.Proofs.YtadjjadimlkkgaaGreatDoor
open Go Go.RowKit
set_option maxHeartbeats 8000000
set_option maxRecDepth 100000

theorem Py{α:Type}(p:α→Bool): ∀(l:List α) (i:Nat),(Wc p l i= -1∧l.find? p=none)∨ ∃j k,Wc p l i=((i+j:Nat):Int)∧l[j]? =some k∧l.find? p=some k:=by
 intro l
 induction l with
 |nil=>intro i;exact .inl ⟨rfl,rfl⟩
 |cons k l ih=>
  intro i;rw[Wc,List.find?_cons]
  cases hp:p k with
  |true=>exact .inr ⟨0,k,by simp,rfl,rfl⟩
  |false=>
   rcases ih (i+1)with⟨h1,h2⟩|⟨j,q,h1,h2,h3⟩
   ·exact .inl ⟨by rw[if_neg (by decide)];exact h1,h2⟩
   ·exact .inr ⟨j+1,q,by rw[if_neg (by decide),h1];congr 1;omega,h2,h3⟩
theorem Co{ps:List Pd}{sc:List Dc}{s:List Nat}{a:Int}{l:List Nd}(h:ps.find? (fun p=>decide (p.name=s))=none):Zw ps sc s a l=(a,5):=by unfold Zw;rw[h]
theorem Wh{ps:List Pd}{sc:List Dc}{s:List Nat}{a:Int}{l:List Nd}{p:Pd}(h:ps.find? (fun p=>decide (p.name=s))=some p):Zw ps sc s a l=if p.params.length≠l.length then(a,7)else Ee sc a p.params l:=by unfold Zw;rw[h]

end Go.Proofs.YtadjjadimlkkgaaGreatDoor
end
section
namespace Go.Proofs.YtadjjadimlkkgaaGreatDoor
open Go

theorem Ze{P:Program}{G:Env}{K:List (Nat×AV)}{st:St}{t e:TypeId}{x i:Operand}{c m off n z:Nat}{k:IntKind}{j:Nat}(he:Ed P t=some (n,e))(hz:P.cellsOf e=z)(hx:Jy G K x=some (.ptr c m off))(hi:Jy G K i=some (.int k (j:Int)))(hj:j<n):
  Z1 P G K (.indexAddr t x i) st (.ptr c m (off+j *z)) st:=.of fun T hT cc d ty pos af g=>by
 show ret (ob (QB G T x) fun x=>ob (QB G T i) fun i=>J5 P t x i) st=_;rw[hT.QB hx,hT.QB hi,Qk,Qk];show ret (ob (Lb (j:Int)) fun i=>ob (Ed P t) fun q=>QD (Nat.ble (i+1) q.1) (JW (off+i *P.cellsOf q.2) fun o=>some (AV.ptr c m o))) st=_;show ret (ob (Ed P t) fun q=>QD (Nat.ble (j+1) q.1) (JW (off+j *P.cellsOf q.2) fun o=>some (AV.ptr c m o))) st=_;rw[he,Qk];show ret (QD (Nat.ble (j+1) n) (JW (off+j *P.cellsOf e) fun o=>some (AV.ptr c m o))) st=_;rw[Nat.ble_eq_true_of_le hj,hz];show ret (JW (off+j *z) fun o=>some (AV.ptr c m o)) st=_;rw[QX];rfl
theorem Va:Ed Tryz.prog 164=some (2,3):=by kernel_rfl
theorem Y5:Program.cellsOf Tryz.prog 3=1:=by kernel_rfl
theorem Ap:Tryz.prog.underlying 164=some (.array 2 3):=by kernel_rfl
theorem ZR{P:Program}{G:Env}{K:List (Nat×AV)}{st:St}{t e:TypeId}{parts:Array (Nat×Operand)}{n k:Nat}{z r:List AV}{ps:List (Nat×AV)}(u:P.underlying t=some (.array n e))(ue:(P.underlying e).isSome=true)(hk:P.cellsOf e=k)(hz:zeroOf P t=some z)(hp:Zq (Jy G K) parts=some ps)(hf:XH (fun i=>some (i *k,k)) ps z=some r):
  Z1 P G K (.build t parts) st (.agg r) st:=.of fun T hT c d ty pos af g=>by
 show ret (Vp P t parts (QB G T)) st=_;unfold Vp;simp only[u,ue,Jj,hz,Qk,hT.parts hp,hk,hf,JX];rfl
theorem HV:(Tryz.prog.underlying 3).isSome=true:=by kernel_rfl
theorem PF(a b x y:Int):Z5 Tryz.prog 164 [.int .i64 a,.int .i64 b] [.int .i64 x,.int .i64 y]=some (Qi (H8 a x) (H8 b y) false):=by kernel_rfl
theorem DW{G:Env}{K:List (Nat×AV)}{st:St}{x y:Operand}{yt:TypeId}{a b c d:Int}(hx:Jy G K x=some (.agg [.int .i64 a,.int .i64 b]))(hy:Jy G K y=some (.agg [.int .i64 c,.int .i64 d])):Z1 Tryz.prog G K (.binOp .eql 164 x y yt) st (.bool (decide ((a,b)=(c,d)))) st:=
 Xh hx hy (by
  show ob (Z5 Tryz.prog 164 [.int .i64 a,.int .i64 b] [.int .i64 c,.int .i64 d]) (fun r=>some (AV.bool r))=_;rw[PF,AQ,AQ,Qk]
  by_cases h1:a=c<;>by_cases h2:b=d<;>simp[h1,h2,QA,Q4])
def yd:AV→Bool
 |.nils=>true
 |_=>false
theorem DV{P:Program}{G:Env}{K:List (Nat×AV)}{st:St}{t yt e:TypeId}{x y:Operand}{kb:AV}{n:Nat}(hn:Yj kb=some n)(ht:P.underlying t=some (.slice e))(hx:Jy G K x=some kb)(hy:Jy G K y=some .nils):Z1 P G K (.binOp .eql t x y yt) st (.bool (yd kb)) st:=
 Xh hx hy (by
  cases kb<;>first|(cases hn;done)|skip
  all_goals
   show QD (IT (P.underlying t) _) (ob (Hb _ .nils) fun b=>some (AV.bool b))=_
   rw[ht];rfl)
theorem MP{kb:AV}(h:yd kb=true):kb=.nils:=by cases kb<;>first|rfl|cases h
end Go.Proofs.YtadjjadimlkkgaaGreatDoor
end
section
namespace Go.Proofs.YtadjjadimlkkgaaGreatDoor
open Go Go.RowKit
set_option maxHeartbeats 8000000
set_option maxRecDepth 100000

def Fi(o:List Nat):AV:=.agg [.int .i64 (Uw o).1,.int .i64 (Uw o).2]

theorem Rr{st:St}(hf:Qx st)(o:List Nat): ∃v st',Ev Tryz.prog QT 147 [.str o] st v st'∧v=Fi o∧Qt st st':=by
 refine Q6 rfl Tryz.func147 rfl Tryz.ntmps147 rfl fun T hT=>?_;have K:Jf [(0,_)] T:=(.cons (hT 0) .nil);have M:=Mem.start hf;refine au 2 K M ?_;intro c2 _ _ K _ M;refine o1 K (Q8 (b:=[108,116]) rfl rfl) rfl fun _ K=>?_;refine Qg 1 K M ?_;intro _ K;refine Qs (K.QB rfl) (fun h4=>?_) (fun h4=>?_)
 ·have hb4:=h4;replace h4:=of_decide_eq_true h4;refine QU ?_;show W _ _ _ _ _ _ _;refine Qs (t:=true) ((K.QB rfl).trans (congrArg (fun b=>some (AV.bool b)) hb4)) (fun _=>?_) (fun h=>by cases h);refine Qo<|Qb<|o1 K (ZR Ap HV Y5 Xx rfl rfl) rfl fun _ K=>?_;refine au 1 K M ?_;intro _ _ K _ M;refine Qf ⟨.inr rfl,_,Wr 0 K M rfl rfl rfl,?_⟩;refine⟨?_,M.qt⟩;unfold Fi Uw
  simp_all
 have hb4:=h4;replace h4:=of_decide_eq_false h4;refine Qb<|o1 K (Q8 (b:=[108,101]) rfl rfl) rfl fun _ K=>?_;refine Qg 1 K M ?_;intro _ K;refine Qs (K.QB rfl) (fun h4=>?_) (fun h4=>?_)
 ·have hb4:=h4;replace h4:=of_decide_eq_true h4;refine Qo<|Qb<|o1 K (ZR Ap HV Y5 Xx rfl rfl) rfl fun _ K=>?_;refine au 1 K M ?_;intro _ _ K _ M;refine Qf ⟨.inr rfl,_,Wr 0 K M rfl rfl rfl,?_⟩;refine⟨?_,M.qt⟩;unfold Fi Uw
  simp_all
 have hb4:=h4;replace h4:=of_decide_eq_false h4;refine Qo<|Qo<|Qb<|o1 K (Q8 (b:=[105,110]) rfl rfl) rfl fun _ K=>?_;refine Qg 1 K M ?_;intro _ K;refine Qs (K.QB rfl) (fun h8=>?_) (fun h8=>?_)
 ·have hb8:=h8;replace h8:=of_decide_eq_true h8;refine QU ?_;show W _ _ _ _ _ _ _;refine Qs (t:=true) ((K.QB rfl).trans (congrArg (fun b=>some (AV.bool b)) hb8)) (fun _=>?_) (fun h=>by cases h);refine Qo<|Qb<|o1 K (ZR Ap HV Y5 Xx rfl rfl) rfl fun _ K=>?_;refine au 1 K M ?_;intro _ _ K _ M;refine Qf ⟨.inr rfl,_,Wr 0 K M rfl rfl rfl,?_⟩;refine⟨?_,M.qt⟩;unfold Fi Uw
  simp_all
 have hb8:=h8;replace h8:=of_decide_eq_false h8;refine Qb<|o1 K (Q8 (b:=[110,111,116,105,110]) rfl rfl) rfl fun _ K=>?_;refine Qg 1 K M ?_;intro _ K;refine Qs (K.QB rfl) (fun h8=>?_) (fun h8=>?_)
 ·have hb8:=h8;replace h8:=of_decide_eq_true h8;refine Qo<|Qb<|o1 K (ZR Ap HV Y5 Xx rfl rfl) rfl fun _ K=>?_;refine au 1 K M ?_;intro _ _ K _ M;refine Qf ⟨.inr rfl,_,Wr 0 K M rfl rfl rfl,?_⟩;refine⟨?_,M.qt⟩;unfold Fi Uw
  simp_all
 have hb8:=h8;replace h8:=of_decide_eq_false h8;refine QU ?_;show W _ _ _ _ _ _ _;refine Qo<|Qb<|o1 K (ZR Ap HV Y5 Xx rfl rfl) rfl fun _ K=>?_;refine au 1 K M ?_;intro _ _ K _ M;refine Qf ⟨.inr rfl,_,Wr 0 K M rfl rfl rfl,?_⟩;refine⟨?_,M.qt⟩;unfold Fi Uw
 simp_all
end Go.Proofs.YtadjjadimlkkgaaGreatDoor
end
