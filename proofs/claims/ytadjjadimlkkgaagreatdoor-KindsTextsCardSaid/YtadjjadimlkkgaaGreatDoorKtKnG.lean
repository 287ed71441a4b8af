/-
  Where a cell of an array lies.
-/
import Derived.Test.YtadjjadimlkkgaaGreatDoorKtKnF
set_option linter.unnecessarySimpa false
set_option linter.unusedSimpArgs false
set_option linter.unusedVariables false
section
namespace Go.Proofs.YtadjjadimlkkgaaGreatDoor
open Go

theorem XB{P:Program}{G:Env}{K:List (Nat×AV)}{st:St}{t e:TypeId}{x i:Operand}{c m off n z:Nat}{k:IntKind}{j:Nat}(he:AX P t=some (n,e))(hz:P.cellsOf e=z)(hx:Uf G K x=some (.ptr c m off))(hi:Uf G K i=some (.int k (j:Int)))(hj:j<n):
  ZV P G K (.indexAddr t x i) st (.ptr c m (off+j *z)) st:=.of fun T hT cc d ty pos af g=>by
 show ret (ob (QN G T x) fun x=>ob (QN G T i) fun i=>UR P t x i) st=_;rw[hT.QN hx,hT.QN hi,QC,QC];show ret (ob (KQ (j:Int)) fun i=>ob (AX P t) fun q=>Jt (Nat.ble (i+1) q.1) (Yp (off+i *P.cellsOf q.2) fun o=>some (AV.ptr c m o))) st=_;show ret (ob (AX P t) fun q=>Jt (Nat.ble (j+1) q.1) (Yp (off+j *P.cellsOf q.2) fun o=>some (AV.ptr c m o))) st=_;rw[he,QC];show ret (Jt (Nat.ble (j+1) n) (Yp (off+j *P.cellsOf e) fun o=>some (AV.ptr c m o))) st=_;rw[Nat.ble_eq_true_of_le hj,hz];show ret (Yp (off+j *z) fun o=>some (AV.ptr c m o)) st=_;rw[JP];rfl
theorem Ea:AX Tryz.prog 164=some (2,3):=by kernel_rfl
theorem ZZ:Program.cellsOf Tryz.prog 3=1:=by kernel_rfl
theorem Ht:Tryz.prog.underlying 164=some (.array 2 3):=by kernel_rfl
theorem V8{P:Program}{G:Env}{K:List (Nat×AV)}{st:St}{t e:TypeId}{parts:Array (Nat×Operand)}{n k:Nat}{z r:List AV}{ps:List (Nat×AV)}(u:P.underlying t=some (.array n e))(ue:(P.underlying e).isSome=true)(hk:P.cellsOf e=k)(hz:zeroOf P t=some z)(hp:XT (Uf G K) parts=some ps)(hf:WC (fun i=>some (i *k,k)) ps z=some r):
  ZV P G K (.build t parts) st (.agg r) st:=.of fun T hT c d ty pos af g=>by
 show ret (Em P t parts (QN G T)) st=_;unfold Em;simp only[u,ue,Uj,hz,QC,hT.parts hp,hk,hf,UF];rfl
theorem KO:(Tryz.prog.underlying 3).isSome=true:=by kernel_rfl
theorem Rl(a b x y:Int):Vk Tryz.prog 164 [.int .i64 a,.int .i64 b] [.int .i64 x,.int .i64 y]=some (Qo (Np a x) (Np b y) false):=by kernel_rfl
theorem PB{G:Env}{K:List (Nat×AV)}{st:St}{x y:Operand}{yt:TypeId}{a b c d:Int}(hx:Uf G K x=some (.agg [.int .i64 a,.int .i64 b]))(hy:Uf G K y=some (.agg [.int .i64 c,.int .i64 d])):ZV Tryz.prog G K (.binOp .eql 164 x y yt) st (.bool (decide ((a,b)=(c,d)))) st:=
 Xx hx hy (by
  show ob (Vk Tryz.prog 164 [.int .i64 a,.int .i64 b] [.int .i64 c,.int .i64 d]) (fun r=>some (AV.bool r))=_;rw[Rl,Ic,Ic,QC]
  by_cases h1:a=c<;>by_cases h2:b=d<;>simp[h1,h2,Jj,Jb])
def uv:AV→Bool
 |.nils=>true
 |_=>false
theorem PA{P:Program}{G:Env}{K:List (Nat×AV)}{st:St}{t yt e:TypeId}{x y:Operand}{kb:AV}{n:Nat}(hn:V5 kb=some n)(ht:P.underlying t=some (.slice e))(hx:Uf G K x=some kb)(hy:Uf G K y=some .nils):ZV P G K (.binOp .eql t x y yt) st (.bool (uv kb)) st:=
 Xx hx hy (by
  cases kb<;>first|(cases hn;done)|skip
  all_goals
   show Jt (LK (P.underlying t) _) (ob (Kj _ .nils) fun b=>some (AV.bool b))=_
   rw[ht];rfl)
theorem MJ{kb:AV}(h:uv kb=true):kb=.nils:=by cases kb<;>first|rfl|cases h
end Go.Proofs.YtadjjadimlkkgaaGreatDoor
end
section
namespace Go.Proofs.YtadjjadimlkkgaaGreatDoor
open Go Go.RowKit
set_option maxHeartbeats 8000000
set_option maxRecDepth 100000

def Iy(o:List Nat):AV:=.agg [.int .i64 (U2 o).1,.int .i64 (U2 o).2]

theorem RB{st:St}(hf:Q3 st)(o:List Nat): ∃v st',Ev Tryz.prog Jg 147 [.str o] st v st'∧v=Iy o∧Qt st st':=by
 refine QG rfl Tryz.func147 rfl Tryz.ntmps147 rfl fun T hT=>?_;have K:Jk [(0,_)] T:=(.cons (hT 0) .nil);have M:=Mem.start hf;refine au 2 K M ?_;intro c2 _ _ K _ M;refine o1 K (QD (b:=[108,116]) rfl rfl) rfl fun _ K=>?_;refine Qc 1 K M ?_;intro _ K;refine Qj (K.QN rfl) (fun h4=>?_) (fun h4=>?_)
 ·have hb4:=h4;replace h4:=of_decide_eq_true h4;refine QO ?_;show W _ _ _ _ _ _ _;refine Qj (t:=true) ((K.QN rfl).trans (congrArg (fun b=>some (AV.bool b)) hb4)) (fun _=>?_) (fun h=>by cases h);refine Qw<|Qi<|o1 K (V8 Ht KO ZZ Wj rfl rfl) rfl fun _ K=>?_;refine au 1 K M ?_;intro _ _ K _ M;refine Qd ⟨.inr rfl,_,XG 0 K M rfl rfl rfl,?_⟩;refine⟨?_,M.qt⟩;unfold Iy U2
  simp_all
 have hb4:=h4;replace h4:=of_decide_eq_false h4;refine Qi<|o1 K (QD (b:=[108,101]) rfl rfl) rfl fun _ K=>?_;refine Qc 1 K M ?_;intro _ K;refine Qj (K.QN rfl) (fun h4=>?_) (fun h4=>?_)
 ·have hb4:=h4;replace h4:=of_decide_eq_true h4;refine Qw<|Qi<|o1 K (V8 Ht KO ZZ Wj rfl rfl) rfl fun _ K=>?_;refine au 1 K M ?_;intro _ _ K _ M;refine Qd ⟨.inr rfl,_,XG 0 K M rfl rfl rfl,?_⟩;refine⟨?_,M.qt⟩;unfold Iy U2
  simp_all
 have hb4:=h4;replace h4:=of_decide_eq_false h4;refine Qw<|Qw<|Qi<|o1 K (QD (b:=[105,110]) rfl rfl) rfl fun _ K=>?_;refine Qc 1 K M ?_;intro _ K;refine Qj (K.QN rfl) (fun h8=>?_) (fun h8=>?_)
 ·have hb8:=h8;replace h8:=of_decide_eq_true h8;refine QO ?_;show W _ _ _ _ _ _ _;refine Qj (t:=true) ((K.QN rfl).trans (congrArg (fun b=>some (AV.bool b)) hb8)) (fun _=>?_) (fun h=>by cases h);refine Qw<|Qi<|o1 K (V8 Ht KO ZZ Wj rfl rfl) rfl fun _ K=>?_;refine au 1 K M ?_;intro _ _ K _ M;refine Qd ⟨.inr rfl,_,XG 0 K M rfl rfl rfl,?_⟩;refine⟨?_,M.qt⟩;unfold Iy U2
  simp_all
 have hb8:=h8;replace h8:=of_decide_eq_false h8;refine Qi<|o1 K (QD (b:=[110,111,116,105,110]) rfl rfl) rfl fun _ K=>?_;refine Qc 1 K M ?_;intro _ K;refine Qj (K.QN rfl) (fun h8=>?_) (fun h8=>?_)
 ·have hb8:=h8;replace h8:=of_decide_eq_true h8;refine Qw<|Qi<|o1 K (V8 Ht KO ZZ Wj rfl rfl) rfl fun _ K=>?_;refine au 1 K M ?_;intro _ _ K _ M;refine Qd ⟨.inr rfl,_,XG 0 K M rfl rfl rfl,?_⟩;refine⟨?_,M.qt⟩;unfold Iy U2
  simp_all
 have hb8:=h8;replace h8:=of_decide_eq_false h8;refine QO ?_;show W _ _ _ _ _ _ _;refine Qw<|Qi<|o1 K (V8 Ht KO ZZ Wj rfl rfl) rfl fun _ K=>?_;refine au 1 K M ?_;intro _ _ K _ M;refine Qd ⟨.inr rfl,_,XG 0 K M rfl rfl rfl,?_⟩;refine⟨?_,M.qt⟩;unfold Iy U2
 simp_all
end Go.Proofs.YtadjjadimlkkgaaGreatDoor
end
