/-
  Atoms: the reference's steps, what it accepts.
-/
import Derived.Test.YtiknomepbklibaaGreatDoorQhCor
set_option linter.unnecessarySimpa false
set_option linter.unusedSimpArgs false
set_option linter.unusedVariables false
namespace Go.Proofs.YtiknomepbklibaaGreatDoor
open Go Go.RowKit
set_option maxHeartbeats 8000000
set_option maxRecDepth 100000
variable {a b n s x y z:Nat} {o:List Nat} {st:St}

def Vc(a b:Nat):Nat:=a^^^(a&&&b)
theorem FV{P:Program}{G:Env}{K:List (Nat×AV)}{t yt:TypeId}{x y:Operand}(hx:QV G K x=some (.int .i64 (a:Nat)))(hy:QV G K y=some (.int .i64 (b:Nat)))(ha:a≤9223372036854775807)(hb:b≤9223372036854775807):U3 P G K (.binOp .andNot t x y yt) st (.int .i64 (Vc a b:Nat)) st:=
 UP hx hy (by
  rw[XT Q9 Q9];show XN (IntKind.i64.wrap (((BitVec.ofInt 64 ((a:Nat):Int)&&& ~~~BitVec.ofInt 64 ((b:Nat):Int)).toNat:Nat):Int)) (fun z=>some (AV.int .i64 z))=_
  have e:a&&&(2^64-1-b)=Vc a b:=by
   apply Nat.eq_of_testBit_eq;intro i;unfold Vc;rw[Nat.testBit_and,Nat.testBit_xor,Nat.testBit_and,show 2^64-1-b=2^64-(b+1) by omega,Nat.testBit_two_pow_sub_succ Qc]
   cases h:a.testBit i with
   |false=>simp
   |true=>
    have hi:i<64:=Classical.byContradiction fun hn=>by
     rw[Nat.testBit_lt_two_pow (Nat.lt_of_lt_of_le (show a<2^64 by omega) (Nat.pow_le_pow_right Q9 Qc))]at h;cases h
    cases b.testBit i<;>simp[hi]
  have h:Vc a b≤a:=e▸Nat.and_le_left
  rw[BitVec.toNat_and,BitVec.toNat_not,IZ ha,IZ hb,e,Yw,wrap64 Qc Qc])
theorem yH(ha:a≤1)(hb:b≤1):Vc a b=a-b:=by
 obtain rfl|rfl:a=0∨a=1:=by omega
 ·obtain rfl|rfl:b=0∨b=1:=by omega
  ·rfl
  ·rfl
 ·obtain rfl|rfl:b=0∨b=1:=by omega
  ·rfl
  ·rfl
theorem Un(hs:s≠30):QR [115,117,98] n s x y z=if x≤y then 0 else 30:=by
 unfold QR;rw[if_neg hs,if_pos rfl]
theorem JL(hs:s≠30):QR [110,111,110,101] n s x y z=if x=0 then 0 else 30:=by
 unfold QR;rw[if_neg hs,if_neg Q9,if_pos rfl]
theorem J0(hs:s≠30):QR [117,110,105,111,110] n s x y z=if z=x|||y then 0 else 30:=by
 unfold QR;rw[if_neg hs,if_neg Q9,if_neg Q9,if_pos rfl]
theorem J2(hs:s≠30):QR [105,110,116,101,114] n s x y z=if z=x&&&y then 0 else 30:=by
 unfold QR;rw[if_neg hs,if_neg Q9,if_neg Q9,if_neg Q9,if_pos rfl]
theorem J1(hs:s≠30):QR [109,105,110,117,115] n s x y z=if z=x-y then 0 else 30:=by
 unfold QR;rw[if_neg hs,if_neg Q9,if_neg Q9,if_neg Q9,if_neg Q9,if_pos rfl]
theorem eI{p:Prop} [Decidable p]{m:Nat}(ha:p→a≤m)(hb: ¬p→b≤m):(if p then a else b)≤m:=by
 split
 ·exact ha ‹_›
 ·exact hb ‹_›
theorem jt(hs:s≤30)(hn:n≤20):QR o n s x y z≤30:=by
 unfold QR
 repeat' first
  |omega
  |(refine eI (fun _=>?_) fun _=>?_)

theorem qv(hf:Qi st)(s x:Nat): ∃v st',Jh 154 [iN s,iN x] st v st'∧v=iZ (if s=1∨x=1 then 1 else 30:Nat)∧Qt st st':=by
 refine JA Tryz.func154 Tryz.ntmps154 fun T K=>?_;have M:=Mem.start hf;refine Qb 3 K M fun _ K=>?_;refine Uj K rfl (fun _ e7 K=>?_) fun _ e7 K=>?_
 ·refine Qb 3 K M fun _ K=>?_;refine Jy K rfl (fun h10=>?_) fun h10=>?_
  ·refine Qb 1 K M ?_
   exact⟨congrArg (AV.int .i64) (by split<;>first|rfl|omega),M.qt⟩
  refine Qb 1 K M ?_
  exact⟨congrArg (AV.int .i64) (by split<;>first|rfl|omega),M.qt⟩
 refine Qb 5 K M ?_
 exact⟨congrArg (AV.int .i64) (by split<;>first|rfl|omega),M.qt⟩

theorem xr(hf:Qi st)(s x:Nat)(hs:s≤30)(hx:x≤1): ∃v st',Jh 155 [iN s,iN x] st v st'∧v=iZ (if 1<s+x then 30 else s+x:Nat)∧Qt st st':=by
 refine JA Tryz.func155 Tryz.ntmps155 fun T K=>?_;have M:=Mem.start hf;refine Qb 5 K M fun _ K=>?_;refine Jy K rfl (fun h8=>?_) fun h8=>?_
 ·refine Qb 1 K M ?_
  exact⟨congrArg (AV.int .i64) (by split<;>first|rfl|omega),M.qt⟩
 refine Qb 4 K M ?_
 exact⟨congrArg (AV.int .i64) (by split<;>first|rfl|omega),M.qt⟩

theorem ur(hf:Qi st)(n s x:Nat)(hn:n≤20)(hs:s≤30)(hx:x≤1): ∃v st',Jh 156 [iN n,iN s,iN x] st v st'∧v=iZ (if s=n+1∧x=0 then s else if n<s∨(s<n∧x=1)∨(s=n∧x=0)then 30 else s+1:Nat)∧Qt st st':=by
 refine JA Tryz.func156 Tryz.ntmps156 fun T K=>?_;have M:=Mem.start hf;refine Qb 5 K M fun _ K=>?_;refine Uj K rfl (fun _ e11 K=>?_) fun _ e11 K=>?_
 ·refine Qb 7 K M fun _ K=>?_;refine Uj K rfl (fun _ e19 K=>?_) fun _ e19 K=>?_
  ·refine Qb 3 K M fun _ K=>?_;refine Nx K rfl rfl (Q0 rfl) rfl (fun _ e23 K=>?_) fun _ e23 K=>?_
   ·refine Qb 8 K M fun _ K=>?_;refine Nx K rfl rfl (Q0 rfl) rfl (fun _ e32 K=>?_) fun _ e32 K=>?_
    ·exact XP
    refine Qb 4 K M fun _ K=>?_;refine Jy K rfl (fun h36=>?_) fun h36=>?_
    ·refine Qb 1 K M ?_
     exact⟨congrArg (AV.int .i64) (by(repeat' split)<;>first|omega|(simp_all;done)|(simp_all;omega)),M.qt⟩
    refine Qb 3 K M ?_
    exact⟨congrArg (AV.int .i64) (by(repeat' split)<;>first|omega|(simp_all;done)|(simp_all;omega)),M.qt⟩
   refine Qb 4 K M fun _ K=>?_;refine Uj K rfl (fun _ e28 K=>?_) fun _ e28 K=>?_
   ·refine Qb 3 K M fun _ K=>?_;refine Nx K rfl rfl (Q0 rfl) rfl (fun _ e32 K=>?_) fun _ e32 K=>?_
    ·refine Qb 8 K M ?_
     exact⟨congrArg (AV.int .i64) (by(repeat' split)<;>first|omega|(simp_all;done)|(simp_all;omega)),M.qt⟩
    exact XP
   refine Qb 10 K M ?_
   exact⟨congrArg (AV.int .i64) (by(repeat' split)<;>first|omega|(simp_all;done)|(simp_all;omega)),M.qt⟩
  refine Qb 19 K M ?_
  exact⟨congrArg (AV.int .i64) (by(repeat' split)<;>first|omega|(simp_all;done)|(simp_all;omega)),M.qt⟩
 refine Qb 3 K M fun _ K=>?_;refine Jy K rfl (fun h14=>?_) fun h14=>?_
 ·refine Qb 2 K M ?_
  exact⟨congrArg (AV.int .i64) (by(repeat' split)<;>first|omega|(simp_all;done)|(simp_all;omega)),M.qt⟩
 refine Qb 3 K M fun _ K=>?_;refine Uj K rfl (fun _ e19 K=>?_) fun _ e19 K=>?_
 ·exact XP
 refine Qb 19 K M ?_
 exact⟨congrArg (AV.int .i64) (by(repeat' split)<;>first|omega|(simp_all;done)|(simp_all;omega)),M.qt⟩

theorem MU(hf:Qi st)(s x y:Nat)(hs:s≤30)(hx:x≤1)(hy:y≤1): ∃v st',Jh 157 [iN s,iN x,iN y] st v st'∧v=iZ (if x+y=0 then s else if s=0∧x=1∧y=0 then 1 else if s=1∧x=0∧y=1 then 2 else 30:Nat)∧Qt st st':=by
 refine JA Tryz.func157 Tryz.ntmps157 fun T K=>?_;have M:=Mem.start hf;refine Qb 6 K M fun _ K=>?_;refine Jy K rfl (fun h7=>?_) fun h7=>?_
 ·refine Qb 2 K M ?_
  exact⟨congrArg (AV.int .i64) (by(repeat' split)<;>first|omega|(simp_all;done)|(simp_all;omega)),M.qt⟩
 refine Qb 2 K M fun _ K=>?_;refine Uj K rfl (fun _ e16 K=>?_) fun _ e16 K=>?_
 ·refine Qb 11 K M fun _ K=>?_;refine Uj K rfl (fun _ e27 K=>?_) fun _ e27 K=>?_
  ·refine Qb 10 K M ?_
   exact⟨congrArg (AV.int .i64) (by(repeat' split)<;>first|omega|(simp_all;done)|(simp_all;omega)),M.qt⟩
  refine Qb 3 K M fun _ K=>?_;refine Uj K rfl (fun _ e31 K=>?_) fun _ e31 K=>?_
  ·refine Qb 6 K M ?_
   exact⟨congrArg (AV.int .i64) (by(repeat' split)<;>first|omega|(simp_all;done)|(simp_all;omega)),M.qt⟩
  refine Qb 4 K M fun _ K=>?_;refine Jy K rfl (fun h24=>?_) fun h24=>?_
  ·refine Qb 1 K M ?_
   exact⟨congrArg (AV.int .i64) (by(repeat' split)<;>first|omega|(simp_all;done)|(simp_all;omega)),M.qt⟩
  exact XP
 refine Qb 3 K M fun _ K=>?_;refine Uj K rfl (fun _ e20 K=>?_) fun _ e20 K=>?_
 ·refine Qb 7 K M fun _ K=>?_;refine Uj K rfl (fun _ e27 K=>?_) fun _ e27 K=>?_
  ·refine Qb 10 K M ?_
   exact⟨congrArg (AV.int .i64) (by(repeat' split)<;>first|omega|(simp_all;done)|(simp_all;omega)),M.qt⟩
  exact XP
 refine Qb 4 K M fun _ K=>?_;refine Jy K rfl (fun h13=>?_) fun h13=>?_
 ·refine Qb 1 K M ?_
  exact⟨congrArg (AV.int .i64) (by(repeat' split)<;>first|omega|(simp_all;done)|(simp_all;omega)),M.qt⟩
 refine Qb 2 K M fun _ K=>?_;refine Uj K rfl (fun _ e27 K=>?_) fun _ e27 K=>?_
 ·refine Qb 10 K M ?_
  exact⟨congrArg (AV.int .i64) (by(repeat' split)<;>first|omega|(simp_all;done)|(simp_all;omega)),M.qt⟩
 exact XP

theorem M8(hf:Qi st)(n s x y:Nat)(hn:n≤20)(hs:s≤30)(hx:x≤1)(hy:y≤1): ∃v st',Jh 158 [iN n,iN s,iN x,iN y] st v st'∧v=iZ (if s=n+1∨(s=0∧x=0)then(if x+y=0 then s else 30)else if s=0∧n=0 then(if y=1 then 1 else 30)else if s=0 then(if y=0 then 1 else 30)else if x=1∨(s<n∧y=1)∨(s=n∧y=0)then 30 else s+1:Nat)∧Qt st st':=by
 refine JA Tryz.func158 Tryz.ntmps158 fun T K=>?_;have M:=Mem.start hf;refine Qb 5 K M fun _ K=>?_;refine Uj K rfl (fun _ e14 K=>?_) fun _ e14 K=>?_
 ·refine Qb 2 K M fun _ K=>?_;refine Nx K rfl rfl (Q0 rfl) rfl (fun _ e17 K=>?_) fun _ e17 K=>?_
  ·refine Qb 8 K M fun _ K=>?_;refine Uj K rfl (fun _ e30 K=>?_) fun _ e30 K=>?_
   ·refine Qb 8 K M fun _ K=>?_;refine Qp (K.QG rfl) (fun h36=>?_) (fun h36=>?_)
    ·have hb36:=h36;replace h36:=of_decide_eq_true h36;exact XP
    have hb36:=h36;replace h36:=of_decide_eq_false h36;refine Qb 2 K M fun _ K=>?_;refine Uj K rfl (fun _ e44 K=>?_) fun _ e44 K=>?_
    ·refine Qb 3 K M fun _ K=>?_;refine Nx K rfl rfl (Q0 rfl) rfl (fun _ e48 K=>?_) fun _ e48 K=>?_
     ·refine Qb 8 K M fun _ K=>?_;refine Nx K rfl rfl (Q0 rfl) rfl (fun _ e57 K=>?_) fun _ e57 K=>?_
      ·refine Qb 9 K M ?_
       exact⟨congrArg (AV.int .i64) (by(repeat' split)<;>first|omega|(simp_all;done)|(simp_all;omega)),M.qt⟩
      refine Qb 5 K M fun _ K=>?_;refine Jy K rfl (fun h41=>?_) fun h41=>?_
      ·refine Qb 1 K M ?_
       exact⟨congrArg (AV.int .i64) (by(repeat' split)<;>first|omega|(simp_all;done)|(simp_all;omega)),M.qt⟩
      refine Qb 3 K M ?_
      exact⟨congrArg (AV.int .i64) (by(repeat' split)<;>first|omega|(simp_all;done)|(simp_all;omega)),M.qt⟩
     refine Qb 4 K M fun _ K=>?_;refine Uj K rfl (fun _ e53 K=>?_) fun _ e53 K=>?_
     ·refine Qb 3 K M fun _ K=>?_;refine Nx K rfl rfl (Q0 rfl) rfl (fun _ e57 K=>?_) fun _ e57 K=>?_
      ·refine Qb 9 K M ?_
       exact⟨congrArg (AV.int .i64) (by(repeat' split)<;>first|omega|(simp_all;done)|(simp_all;omega)),M.qt⟩
      exact XP
     refine Qb 11 K M ?_
     exact⟨congrArg (AV.int .i64) (by(repeat' split)<;>first|omega|(simp_all;done)|(simp_all;omega)),M.qt⟩
    refine Qb 20 K M ?_
    exact⟨congrArg (AV.int .i64) (by(repeat' split)<;>first|omega|(simp_all;done)|(simp_all;omega)),M.qt⟩
   exact XP
  refine Qb 5 K M fun _ K=>?_;refine Jy K rfl (fun h9=>?_) fun h9=>?_
  ·refine Qb 4 K M fun _ K=>?_;refine Qp (K.QG rfl) (fun h25=>?_) (fun h25=>?_)
   ·have hb25:=h25;replace h25:=of_decide_eq_true h25;refine Qb 2 K M ?_
    exact⟨congrArg (AV.int .i64) (by(repeat' split)<;>first|omega|(simp_all;done)|(simp_all;omega)),M.qt⟩
   have hb25:=h25;replace h25:=of_decide_eq_false h25;refine Qb 1 K M ?_
   exact⟨congrArg (AV.int .i64) (by(repeat' split)<;>first|omega|(simp_all;done)|(simp_all;omega)),M.qt⟩
  refine Qb 2 K M fun _ K=>?_;refine Uj K rfl (fun _ e30 K=>?_) fun _ e30 K=>?_
  ·exact XP
  refine Qb 4 K M fun _ K=>?_;refine Jy K rfl (fun h27=>?_) fun h27=>?_
  ·refine Qb 2 K M fun _ K=>?_;refine Jy K rfl (fun h35=>?_) fun h35=>?_
   ·refine Qb 1 K M ?_
    exact⟨congrArg (AV.int .i64) (by(repeat' split)<;>first|omega|(simp_all;done)|(simp_all;omega)),M.qt⟩
   refine Qb 1 K M ?_
   exact⟨congrArg (AV.int .i64) (by(repeat' split)<;>first|omega|(simp_all;done)|(simp_all;omega)),M.qt⟩
  refine Qb 3 K M fun _ K=>?_;refine Qp (K.QG rfl) (fun h36=>?_) (fun h36=>?_)
  ·have hb36:=h36;replace h36:=of_decide_eq_true h36;refine Qb 2 K M fun _ K=>?_;refine Jy K rfl (fun h40=>?_) fun h40=>?_
   ·refine Qb 1 K M ?_
    exact⟨congrArg (AV.int .i64) (by(repeat' split)<;>first|omega|(simp_all;done)|(simp_all;omega)),M.qt⟩
   refine Qb 1 K M ?_
   exact⟨congrArg (AV.int .i64) (by(repeat' split)<;>first|omega|(simp_all;done)|(simp_all;omega)),M.qt⟩
  have hb36:=h36;replace h36:=of_decide_eq_false h36;exact XP
 refine Qb 13 K M fun _ K=>?_;refine Qp (K.QG rfl) (fun h25=>?_) (fun h25=>?_)
 ·have hb25:=h25;replace h25:=of_decide_eq_true h25;refine Qb 2 K M ?_
  exact⟨congrArg (AV.int .i64) (by(repeat' split)<;>first|omega|(simp_all;done)|(simp_all;omega)),M.qt⟩
 have hb25:=h25;replace h25:=of_decide_eq_false h25;refine Qb 1 K M ?_
 exact⟨congrArg (AV.int .i64) (by(repeat' split)<;>first|omega|(simp_all;done)|(simp_all;omega)),M.qt⟩

theorem Mi(hf:Qi st){a b g:Int}{nn:Nat}{kc:AV}(hkc:Qs kc=true)(hn:nn≤20)(hs:s≤30)(hx:x≤1)(hy:y≤1)(hz:z≤1): ∃v st',Jh 130 [.agg [.str o,.int .i64 a,.int .i64 b,.int .i64 g,.int .i64 (nn:Nat),kc],.int .i64 (s:Nat),.int .i64 (x:Nat),.int .i64 (y:Nat),.int .i64 (z:Nat)] st v st'∧v=.int .i64 (QR o nn s x y z:Nat)∧Qt st st':=by
 have hdf:=yH hx hy;refine Ci rfl Tryz.func130 rfl Tryz.ntmps130 rfl fun T hT=>?_;have K:QT [(0,_),(1,_),(2,_),(3,_),(4,_)] T:=(.cons (hT 0) (.cons (hT 1) (.cons (hT 2) (.cons (hT 3) (.cons (hT 4) .nil)))));have M:=Mem.start hf;refine au 4 K M ?_;intro c5 _ _ K _ M;refine Jy K rfl (fun h13=>?_) fun h13=>?_
 ·refine Qb 1 K M ?_
  have e9:QR o nn s x y z=30:=by
   clear M K hT
   first|(unfold QR;rw[if_pos Qc];done)|(have hs30:s≠30:=Qc;subst_vars;(first|rw[Un hs30]|rw[JL hs30]|rw[J0 hs30]|rw[J2 hs30]|rw[J1 hs30]);first|(rw[if_pos Qc];done)|(rw[if_neg Qc];done))|(have hs30:s≠30:=Qc;unfold QR;simp_all;done)
  rw[e9];exact⟨rfl,M.qt⟩
 refine Qb 3 K M fun _ K=>?_;refine p1 K (QU (b:=[115,117,98]) rfl rfl) fun _ K=>?_;refine Qb 1 K M fun _ K=>?_;refine Jy K rfl (fun h16=>?_) fun h16=>?_
 ·refine Qb 6 K M fun _ K=>?_;refine Qp (K.QG rfl) (fun h78=>?_) (fun h78=>?_)
  ·have hb78:=h78
   replace h78: ¬(((x:Nat):Int)≤((y:Nat):Int)):=by first|exact of_decide_eq_false h78|exact yF h78|simpa using h78
   refine Qb 1 K M ?_
   have e9:QR o nn s x y z=30:=by
    clear M K hT
    first|(unfold QR;rw[if_pos Qc];done)|(have hs30:s≠30:=Qc;subst_vars;(first|rw[Un hs30]|rw[JL hs30]|rw[J0 hs30]|rw[J2 hs30]|rw[J1 hs30]);first|(rw[if_pos Qc];done)|(rw[if_neg Qc];done))|(have hs30:s≠30:=Qc;unfold QR;simp_all;done)
   rw[e9];exact⟨rfl,M.qt⟩
  have hb78:=h78
  replace h78:(((x:Nat):Int)≤((y:Nat):Int)):=by first|exact of_decide_eq_true h78|exact yT h78|simpa using h78
  refine Qb 1 K M ?_
  have e9:QR o nn s x y z=0:=by
   clear M K hT
   first|(unfold QR;rw[if_pos Qc];done)|(have hs30:s≠30:=Qc;subst_vars;(first|rw[Un hs30]|rw[JL hs30]|rw[J0 hs30]|rw[J2 hs30]|rw[J1 hs30]);first|(rw[if_pos Qc];done)|(rw[if_neg Qc];done))|(have hs30:s≠30:=Qc;unfold QR;simp_all;done)
  rw[e9];exact⟨rfl,M.qt⟩
 refine Qb 0 K M fun _ K=>?_;refine p1 K (QU (b:=[110,111,110,101]) rfl rfl) fun _ K=>?_;refine Qb 1 K M fun _ K=>?_;refine Jy K rfl (fun h21=>?_) fun h21=>?_
 ·refine Qb 5 K M fun _ K=>?_;refine Qp (K.QG rfl) (fun h78=>?_) (fun h78=>?_)
  ·have hb78:=h78
   replace h78: ¬(((x:Nat):Int)=0):=by first|exact of_decide_eq_false h78|exact yF h78|simpa using h78
   refine Qb 1 K M ?_
   have e9:QR o nn s x y z=30:=by
    clear M K hT
    first|(unfold QR;rw[if_pos Qc];done)|(have hs30:s≠30:=Qc;subst_vars;(first|rw[Un hs30]|rw[JL hs30]|rw[J0 hs30]|rw[J2 hs30]|rw[J1 hs30]);first|(rw[if_pos Qc];done)|(rw[if_neg Qc];done))|(have hs30:s≠30:=Qc;unfold QR;simp_all;done)
   rw[e9];exact⟨rfl,M.qt⟩
  have hb78:=h78
  replace h78:(((x:Nat):Int)=0):=by first|exact of_decide_eq_true h78|exact yT h78|simpa using h78
  refine Qb 1 K M ?_
  have e9:QR o nn s x y z=0:=by
   clear M K hT
   first|(unfold QR;rw[if_pos Qc];done)|(have hs30:s≠30:=Qc;subst_vars;(first|rw[Un hs30]|rw[JL hs30]|rw[J0 hs30]|rw[J2 hs30]|rw[J1 hs30]);first|(rw[if_pos Qc];done)|(rw[if_neg Qc];done))|(have hs30:s≠30:=Qc;unfold QR;simp_all;done)
  rw[e9];exact⟨rfl,M.qt⟩
 refine Qb 0 K M fun _ K=>?_;refine p1 K (QU (b:=[117,110,105,111,110]) rfl rfl) fun _ K=>?_;refine Qb 1 K M fun _ K=>?_;refine Jy K rfl (fun h25=>?_) fun h25=>?_
 ·refine Qb 3 K M fun _ K=>?_;refine p1 K (BJ rfl rfl Qc Qc) fun _ K=>?_;refine Qb 4 K M fun _ K=>?_;refine Qp (K.QG rfl) (fun h78=>?_) (fun h78=>?_)
  ·have hb78:=h78
   replace h78: ¬(((z:Nat):Int)=(((x|||y):Nat):Int)):=by first|exact of_decide_eq_false h78|exact yF h78|simpa using h78
   refine Qb 1 K M ?_
   have e9:QR o nn s x y z=30:=by
    clear M K hT
    first|(unfold QR;rw[if_pos Qc];done)|(have hs30:s≠30:=Qc;subst_vars;(first|rw[Un hs30]|rw[JL hs30]|rw[J0 hs30]|rw[J2 hs30]|rw[J1 hs30]);first|(rw[if_pos Qc];done)|(rw[if_neg Qc];done))|(have hs30:s≠30:=Qc;unfold QR;simp_all;done)
   rw[e9];exact⟨rfl,M.qt⟩
  have hb78:=h78
  replace h78:(((z:Nat):Int)=(((x|||y):Nat):Int)):=by first|exact of_decide_eq_true h78|exact yT h78|simpa using h78
  refine Qb 1 K M ?_
  have e9:QR o nn s x y z=0:=by
   clear M K hT
   first|(unfold QR;rw[if_pos Qc];done)|(have hs30:s≠30:=Qc;subst_vars;(first|rw[Un hs30]|rw[JL hs30]|rw[J0 hs30]|rw[J2 hs30]|rw[J1 hs30]);first|(rw[if_pos Qc];done)|(rw[if_neg Qc];done))|(have hs30:s≠30:=Qc;unfold QR;simp_all;done)
  rw[e9];exact⟨rfl,M.qt⟩
 refine Qb 0 K M fun _ K=>?_;refine p1 K (QU (b:=[105,110,116,101,114]) rfl rfl) fun _ K=>?_;refine Qb 1 K M fun _ K=>?_;refine Jy K rfl (fun h32=>?_) fun h32=>?_
 ·refine Qb 3 K M fun _ K=>?_;refine p1 K (HN rfl rfl Qc Qc) fun _ K=>?_;refine Qb 4 K M fun _ K=>?_;refine Qp (K.QG rfl) (fun h78=>?_) (fun h78=>?_)
  ·have hb78:=h78
   replace h78: ¬(((z:Nat):Int)=(((x&&&y):Nat):Int)):=by first|exact of_decide_eq_false h78|exact yF h78|simpa using h78
   refine Qb 1 K M ?_
   have e9:QR o nn s x y z=30:=by
    clear M K hT
    first|(unfold QR;rw[if_pos Qc];done)|(have hs30:s≠30:=Qc;subst_vars;(first|rw[Un hs30]|rw[JL hs30]|rw[J0 hs30]|rw[J2 hs30]|rw[J1 hs30]);first|(rw[if_pos Qc];done)|(rw[if_neg Qc];done))|(have hs30:s≠30:=Qc;unfold QR;simp_all;done)
   rw[e9];exact⟨rfl,M.qt⟩
  have hb78:=h78
  replace h78:(((z:Nat):Int)=(((x&&&y):Nat):Int)):=by first|exact of_decide_eq_true h78|exact yT h78|simpa using h78
  refine Qb 1 K M ?_
  have e9:QR o nn s x y z=0:=by
   clear M K hT
   first|(unfold QR;rw[if_pos Qc];done)|(have hs30:s≠30:=Qc;subst_vars;(first|rw[Un hs30]|rw[JL hs30]|rw[J0 hs30]|rw[J2 hs30]|rw[J1 hs30]);first|(rw[if_pos Qc];done)|(rw[if_neg Qc];done))|(have hs30:s≠30:=Qc;unfold QR;simp_all;done)
  rw[e9];exact⟨rfl,M.qt⟩
 refine Qb 0 K M fun _ K=>?_;refine p1 K (QU (b:=[109,105,110,117,115]) rfl rfl) fun _ K=>?_;refine Qb 1 K M fun _ K=>?_;refine Jy K rfl (fun h39=>?_) fun h39=>?_
 ·refine Qb 3 K M fun _ K=>?_;refine p1 K (FV rfl rfl Qc Qc) fun _ K=>?_;refine Qb 4 K M fun _ K=>?_;refine Qp (K.QG rfl) (fun h78=>?_) (fun h78=>?_)
  ·have hb78:=h78
   replace h78: ¬(((z:Nat):Int)=(((Vc x y):Nat):Int)):=by first|exact of_decide_eq_false h78|exact yF h78|simpa using h78
   refine Qb 1 K M ?_
   have e9:QR o nn s x y z=30:=by
    clear M K hT
    first|(unfold QR;rw[if_pos Qc];done)|(have hs30:s≠30:=Qc;subst_vars;(first|rw[Un hs30]|rw[JL hs30]|rw[J0 hs30]|rw[J2 hs30]|rw[J1 hs30]);first|(rw[if_pos Qc];done)|(rw[if_neg Qc];done))|(have hs30:s≠30:=Qc;unfold QR;simp_all;done)
   rw[e9];exact⟨rfl,M.qt⟩
  have hb78:=h78
  replace h78:(((z:Nat):Int)=(((Vc x y):Nat):Int)):=by first|exact of_decide_eq_true h78|exact yT h78|simpa using h78
  refine Qb 1 K M ?_
  have e9:QR o nn s x y z=0:=by
   clear M K hT
   first|(unfold QR;rw[if_pos Qc];done)|(have hs30:s≠30:=Qc;subst_vars;(first|rw[Un hs30]|rw[JL hs30]|rw[J0 hs30]|rw[J2 hs30]|rw[J1 hs30]);first|(rw[if_pos Qc];done)|(rw[if_neg Qc];done))|(have hs30:s≠30:=Qc;unfold QR;simp_all;done)
  rw[e9];exact⟨rfl,M.qt⟩
 refine Qb 0 K M fun _ K=>?_;refine p1 K (QU (b:=[102,108,97,103]) rfl rfl) fun _ K=>?_;refine Qb 1 K M fun _ K=>?_;refine Jy K rfl (fun h46=>?_) fun h46=>?_
 ·refine Qb 2 K M fun _ K=>?_;refine oQ K M (qv M.fresh s x) rfl rfl fun _ _ K M=>?_;refine Qb 1 K M ?_
  have e9:QR o nn s x y z=(if s=1∨x=1 then 1 else 30:Nat):=by
   clear M K hT
   first|(unfold QR;rw[if_pos Qc];done)|(have hs30:s≠30:=Qc;subst_vars;(first|rw[Un hs30]|rw[JL hs30]|rw[J0 hs30]|rw[J2 hs30]|rw[J1 hs30]);first|(rw[if_pos Qc];done)|(rw[if_neg Qc];done))|(have hs30:s≠30:=Qc;unfold QR;simp_all;done)
  rw[e9];exact⟨rfl,M.qt⟩
 refine Qb 0 K M fun _ K=>?_;refine p1 K (QU (b:=[115,105,110,103]) rfl rfl) fun _ K=>?_;refine Qb 1 K M fun _ K=>?_;refine Jy K rfl (fun h51=>?_) fun h51=>?_
 ·refine Qb 2 K M fun _ K=>?_;refine oQ K M (xr M.fresh s x hs hx) rfl rfl fun _ _ K M=>?_;refine Qb 1 K M ?_
  have e9:QR o nn s x y z=(if 1<s+x then 30 else s+x:Nat):=by
   clear M K hT
   first|(unfold QR;rw[if_pos Qc];done)|(have hs30:s≠30:=Qc;subst_vars;(first|rw[Un hs30]|rw[JL hs30]|rw[J0 hs30]|rw[J2 hs30]|rw[J1 hs30]);first|(rw[if_pos Qc];done)|(rw[if_neg Qc];done))|(have hs30:s≠30:=Qc;unfold QR;simp_all;done)
  rw[e9];exact⟨rfl,M.qt⟩
 refine Qb 0 K M fun _ K=>?_;refine p1 K (QU (b:=[110,117,109]) rfl rfl) fun _ K=>?_;refine Qb 1 K M fun _ K=>?_;refine Jy K rfl (fun h56=>?_) fun h56=>?_
 ·refine Qb 4 K M fun _ K=>?_;refine oQ K M (ur M.fresh nn s x hn hs hx) rfl rfl fun _ _ K M=>?_;refine Qb 1 K M ?_
  have e9:QR o nn s x y z=(if s=nn+1∧x=0 then s else if nn<s∨(s<nn∧x=1)∨(s=nn∧x=0)then 30 else s+1:Nat):=by
   clear M K hT
   first|(unfold QR;rw[if_pos Qc];done)|(have hs30:s≠30:=Qc;subst_vars;(first|rw[Un hs30]|rw[JL hs30]|rw[J0 hs30]|rw[J2 hs30]|rw[J1 hs30]);first|(rw[if_pos Qc];done)|(rw[if_neg Qc];done))|(have hs30:s≠30:=Qc;unfold QR;simp_all;done)
  rw[e9];exact⟨rfl,M.qt⟩
 refine Qb 0 K M fun _ K=>?_;refine p1 K (QU (b:=[108,101,115,115]) rfl rfl) fun _ K=>?_;refine Qb 1 K M fun _ K=>?_;refine Jy K rfl (fun h63=>?_) fun h63=>?_
 ·refine Qb 3 K M fun _ K=>?_;refine oQ K M (MU M.fresh s x y hs hx hy) rfl rfl fun _ _ K M=>?_;refine Qb 1 K M ?_
  have e9:QR o nn s x y z=(if x+y=0 then s else if s=0∧x=1∧y=0 then 1 else if s=1∧x=0∧y=1 then 2 else 30:Nat):=by
   clear M K hT
   first|(unfold QR;rw[if_pos Qc];done)|(have hs30:s≠30:=Qc;subst_vars;(first|rw[Un hs30]|rw[JL hs30]|rw[J0 hs30]|rw[J2 hs30]|rw[J1 hs30]);first|(rw[if_pos Qc];done)|(rw[if_neg Qc];done))|(have hs30:s≠30:=Qc;unfold QR;simp_all;done)
  rw[e9];exact⟨rfl,M.qt⟩
 refine Qb 0 K M fun _ K=>?_;refine p1 K (QU (b:=[112,108,117,115]) rfl rfl) fun _ K=>?_;refine Qb 1 K M fun _ K=>?_;refine Jy K rfl (fun h69=>?_) fun h69=>?_
 ·refine Qb 5 K M fun _ K=>?_;refine oQ K M (M8 M.fresh nn s x y hn hs hx hy) rfl rfl fun _ _ K M=>?_;refine Qb 1 K M ?_
  have e9:QR o nn s x y z=(if s=nn+1∨(s=0∧x=0)then(if x+y=0 then s else 30)else if s=0∧nn=0 then(if y=1 then 1 else 30)else if s=0 then(if y=0 then 1 else 30)else if x=1∨(s<nn∧y=1)∨(s=nn∧y=0)then 30 else s+1:Nat):=by
   clear M K hT
   first|(unfold QR;rw[if_pos Qc];done)|(have hs30:s≠30:=Qc;subst_vars;(first|rw[Un hs30]|rw[JL hs30]|rw[J0 hs30]|rw[J2 hs30]|rw[J1 hs30]);first|(rw[if_pos Qc];done)|(rw[if_neg Qc];done))|(have hs30:s≠30:=Qc;unfold QR;simp_all;done)
  rw[e9];exact⟨rfl,M.qt⟩
 refine Qb 4 K M ?_
 have e9:QR o nn s x y z=0:=by
  clear M K hT
  first|(unfold QR;rw[if_pos Qc];done)|(have hs30:s≠30:=Qc;subst_vars;(first|rw[Un hs30]|rw[JL hs30]|rw[J0 hs30]|rw[J2 hs30]|rw[J1 hs30]);first|(rw[if_pos Qc];done)|(rw[if_neg Qc];done))|(have hs30:s≠30:=Qc;unfold QR;simp_all;done)
 rw[e9];exact⟨rfl,M.qt⟩

theorem C7(hf:Qi st){a b g:Int}{nn:Nat}{kc:AV}(hkc:Qs kc=true)(hn:nn≤20): ∃v st',Jh 131 [.agg [.str o,.int .i64 a,.int .i64 b,.int .i64 g,.int .i64 (nn:Nat),kc],.int .i64 (s:Nat)] st v st'∧v=.bool (Xe o nn s)∧Qt st st':=by
 refine Ci rfl Tryz.func131 rfl Tryz.ntmps131 rfl fun T hT=>?_;have K:QT [(0,_),(1,_)] T:=(.cons (hT 0) (.cons (hT 1) .nil));have M:=Mem.start hf;refine au 4 K M ?_;intro c2 _ _ K _ M;refine Jy K rfl (fun h6=>?_) fun h6=>?_
 ·refine Qb 1 K M ?_
  have e9:Xe o nn s=false:=by
   clear M K hT;unfold Xe
   first|(rw[if_pos Qc];done)|(have hs30:s≠30:=Qc;first|(rw[if_neg hs30,if_pos (by simp[*])]<;>exact decide_eq_decide.2 Qc)|(rw[if_neg hs30,if_neg (by simp[*]),if_pos (by simp[*])]<;>exact decide_eq_decide.2 Qc)|(rw[if_neg hs30,if_neg (by simp[*]),if_neg (by simp[*]),if_pos (by simp[*])]<;>exact decide_eq_decide.2 Qc)|(rw[if_neg hs30,if_neg (by simp[*]),if_neg (by simp[*]),if_neg (by simp[*])]))
  rw[e9];exact⟨rfl,M.qt⟩
 refine Qb 2 K M fun _ K=>?_;refine p1 K (QU (b:=[102,108,97,103]) rfl rfl) fun _ K=>?_;refine Qb 1 K M fun _ K=>?_;refine Qp (K.QG rfl) (fun h9=>?_) (fun h9=>?_)
 ·have hb9:=h9;replace h9:=of_decide_eq_true h9;refine Qb 0 K M fun _ K=>?_;refine Qp (t:=true) ((K.QG rfl).trans (congrArg (fun b=>some (AV.bool b)) hb9)) (fun _=>?_) (fun h=>by cases h);refine Qb 3 K M ?_
  have e9:Xe o nn s=decide (((s:Nat):Int)=1):=by
   clear M K hT;unfold Xe
   first|(rw[if_pos Qc];done)|(have hs30:s≠30:=Qc;first|(rw[if_neg hs30,if_pos (by simp[*])]<;>exact decide_eq_decide.2 Qc)|(rw[if_neg hs30,if_neg (by simp[*]),if_pos (by simp[*])]<;>exact decide_eq_decide.2 Qc)|(rw[if_neg hs30,if_neg (by simp[*]),if_neg (by simp[*]),if_pos (by simp[*])]<;>exact decide_eq_decide.2 Qc)|(rw[if_neg hs30,if_neg (by simp[*]),if_neg (by simp[*]),if_neg (by simp[*])]))
  rw[e9];exact⟨rfl,M.qt⟩
 have hb9:=h9;replace h9:=of_decide_eq_false h9;refine W7<|p1 K (QU (b:=[115,105,110,103]) rfl rfl) fun _ K=>?_;refine Qb 1 K M fun _ K=>?_;refine Qp (K.QG rfl) (fun h9=>?_) (fun h9=>?_)
 ·have hb9:=h9;replace h9:=of_decide_eq_true h9;refine Qb 3 K M ?_
  have e9:Xe o nn s=decide (((s:Nat):Int)=1):=by
   clear M K hT;unfold Xe
   first|(rw[if_pos Qc];done)|(have hs30:s≠30:=Qc;first|(rw[if_neg hs30,if_pos (by simp[*])]<;>exact decide_eq_decide.2 Qc)|(rw[if_neg hs30,if_neg (by simp[*]),if_pos (by simp[*])]<;>exact decide_eq_decide.2 Qc)|(rw[if_neg hs30,if_neg (by simp[*]),if_neg (by simp[*]),if_pos (by simp[*])]<;>exact decide_eq_decide.2 Qc)|(rw[if_neg hs30,if_neg (by simp[*]),if_neg (by simp[*]),if_neg (by simp[*])]))
  rw[e9];exact⟨rfl,M.qt⟩
 have hb9:=h9;replace h9:=of_decide_eq_false h9;refine Qb 0 K M fun _ K=>?_;refine p1 K (QU (b:=[108,101,115,115]) rfl rfl) fun _ K=>?_;refine Qb 1 K M fun _ K=>?_;refine Jy K rfl (fun h14=>?_) fun h14=>?_
 ·refine Qb 3 K M ?_
  have e9:Xe o nn s=decide (((s:Nat):Int)=2):=by
   clear M K hT;unfold Xe
   first|(rw[if_pos Qc];done)|(have hs30:s≠30:=Qc;first|(rw[if_neg hs30,if_pos (by simp[*])]<;>exact decide_eq_decide.2 Qc)|(rw[if_neg hs30,if_neg (by simp[*]),if_pos (by simp[*])]<;>exact decide_eq_decide.2 Qc)|(rw[if_neg hs30,if_neg (by simp[*]),if_neg (by simp[*]),if_pos (by simp[*])]<;>exact decide_eq_decide.2 Qc)|(rw[if_neg hs30,if_neg (by simp[*]),if_neg (by simp[*]),if_neg (by simp[*])]))
  rw[e9];exact⟨rfl,M.qt⟩
 refine Qb 0 K M fun _ K=>?_;refine p1 K (QU (b:=[112,108,117,115]) rfl rfl) fun _ K=>?_;refine Qb 1 K M fun _ K=>?_;refine Qp (K.QG rfl) (fun h18=>?_) (fun h18=>?_)
 ·have hb18:=h18;replace h18:=of_decide_eq_true h18;refine Qb 0 K M fun _ K=>?_;refine Qp (t:=true) ((K.QG rfl).trans (congrArg (fun b=>some (AV.bool b)) hb18)) (fun _=>?_) (fun h=>by cases h);refine Qb 6 K M ?_
  have e9:Xe o nn s=decide (((s:Nat):Int)=(((nn:Nat):Int)+1)):=by
   clear M K hT;unfold Xe
   first|(rw[if_pos Qc];done)|(have hs30:s≠30:=Qc;first|(rw[if_neg hs30,if_pos (by simp[*])]<;>exact decide_eq_decide.2 Qc)|(rw[if_neg hs30,if_neg (by simp[*]),if_pos (by simp[*])]<;>exact decide_eq_decide.2 Qc)|(rw[if_neg hs30,if_neg (by simp[*]),if_neg (by simp[*]),if_pos (by simp[*])]<;>exact decide_eq_decide.2 Qc)|(rw[if_neg hs30,if_neg (by simp[*]),if_neg (by simp[*]),if_neg (by simp[*])]))
  rw[e9];exact⟨rfl,M.qt⟩
 have hb18:=h18;replace h18:=of_decide_eq_false h18;refine W7<|p1 K (QU (b:=[110,117,109]) rfl rfl) fun _ K=>?_;refine Qb 1 K M fun _ K=>?_;refine Qp (K.QG rfl) (fun h18=>?_) (fun h18=>?_)
 ·have hb18:=h18;replace h18:=of_decide_eq_true h18;refine Qb 6 K M ?_
  have e9:Xe o nn s=decide (((s:Nat):Int)=(((nn:Nat):Int)+1)):=by
   clear M K hT;unfold Xe
   first|(rw[if_pos Qc];done)|(have hs30:s≠30:=Qc;first|(rw[if_neg hs30,if_pos (by simp[*])]<;>exact decide_eq_decide.2 Qc)|(rw[if_neg hs30,if_neg (by simp[*]),if_pos (by simp[*])]<;>exact decide_eq_decide.2 Qc)|(rw[if_neg hs30,if_neg (by simp[*]),if_neg (by simp[*]),if_pos (by simp[*])]<;>exact decide_eq_decide.2 Qc)|(rw[if_neg hs30,if_neg (by simp[*]),if_neg (by simp[*]),if_neg (by simp[*])]))
  rw[e9];exact⟨rfl,M.qt⟩
 have hb18:=h18;replace h18:=of_decide_eq_false h18;refine Qb 1 K M ?_
 have e9:Xe o nn s=true:=by
  clear M K hT;unfold Xe
  first|(rw[if_pos Qc];done)|(have hs30:s≠30:=Qc;first|(rw[if_neg hs30,if_pos (by simp[*])]<;>exact decide_eq_decide.2 Qc)|(rw[if_neg hs30,if_neg (by simp[*]),if_pos (by simp[*])]<;>exact decide_eq_decide.2 Qc)|(rw[if_neg hs30,if_neg (by simp[*]),if_neg (by simp[*]),if_pos (by simp[*])]<;>exact decide_eq_decide.2 Qc)|(rw[if_neg hs30,if_neg (by simp[*]),if_neg (by simp[*]),if_neg (by simp[*])]))
 rw[e9];exact⟨rfl,M.qt⟩
end Go.Proofs.YtiknomepbklibaaGreatDoor
