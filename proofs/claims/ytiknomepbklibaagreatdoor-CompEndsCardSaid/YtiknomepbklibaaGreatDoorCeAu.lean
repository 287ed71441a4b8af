/-
  Straight runs of operations in one step.
-/
import Derived.Test.YtiknomepbklibaaGreatDoorCeTyc
namespace Go.Proofs.YtiknomepbklibaaGreatDoor
open Go Go.RowKit
set_option linter.unusedVariables false
set_option linter.unusedSectionVars false
variable {F:Tr AV→St→Prop} {f:FuncId} {g:Operand} {i id jj n t1 tt:Nat} {pol:Bool} {sn:List St} {st1:St} {w:List (Nat×Nat)}

class FO(P:Program)(t:TypeId)(f:Nat)(o:outParam Nat):Prop where
 h:QJ P t f=some o
class T1(P:Program)(t:TypeId):Prop where
 h:tk P t=.one
class TA(P:Program)(t:TypeId)(n:outParam Nat):Prop where
 h:tk P t=.agg n
class ZE(P:Program)(t:TypeId)(l:outParam (List AV)):Prop where
 h:zeroOf P t=some l
class SZ(P:Program)(t:TypeId)(n:outParam Nat):Prop where
 h:YI P t=some n
class UL(P:Program)(t:TypeId):Prop where
 h: ∃e,P.underlying t=some (.slice e)
class ST(P:Program)(t:TypeId)(tbl:outParam (List (Nat×Nat)))(z:outParam (List AV)):Prop where
 h:Py P t tbl z
class SL(P:Program)(t:TypeId)(e:outParam TypeId)(z:outParam Nat):Prop where
 h:FX P t e z
instance :FO Tryz.prog 44 0 0:=⟨OJ⟩
instance :FO Tryz.prog 44 1 1:=⟨OI⟩
instance :FO Tryz.prog 44 2 2:=⟨OH⟩
instance :FO Tryz.prog 44 3 3:=⟨OG⟩
instance :FO Tryz.prog 44 4 4:=⟨OF⟩
instance :FO Tryz.prog 44 5 5:=⟨OE⟩
instance :FO Tryz.prog 25 0 0:=⟨OM⟩
instance :FO Tryz.prog 25 1 1:=⟨OL⟩
instance :FO Tryz.prog 25 2 2:=⟨OK⟩
instance :FO Tryz.prog 65 0 0:=⟨IB⟩
instance :FO Tryz.prog 65 1 1:=⟨IA⟩
instance :FO Tryz.prog 71 0 0:=⟨KJ⟩
instance :FO Tryz.prog 71 1 1:=⟨KI⟩
instance :FO Tryz.prog 77 0 0:=⟨Af⟩
instance :FO Tryz.prog 77 1 1:=⟨Ae⟩
instance :FO Tryz.prog 86 0 0:=⟨OD⟩
instance :FO Tryz.prog 86 1 1:=⟨OC⟩
instance :FO Tryz.prog 86 2 2:=⟨OB⟩
instance :FO Tryz.prog 105 0 0:=⟨E6⟩
instance :FO Tryz.prog 105 1 1:=⟨E5⟩
instance :FO Tryz.prog 109 0 0:=⟨We⟩
instance :FO Tryz.prog 109 1 1:=⟨Wd⟩
instance :FO Tryz.prog 109 2 2:=⟨Wc⟩
instance :FO Tryz.prog 125 0 0:=⟨Nz⟩
instance :FO Tryz.prog 125 1 1:=⟨Ny⟩
instance :FO Tryz.prog 125 2 2:=⟨Nx⟩
instance :FO Tryz.prog 164 0 0:=⟨KS⟩
instance :FO Tryz.prog 164 1 1:=⟨KR⟩
instance :FO Tryz.prog 164 2 2:=⟨KQ⟩
instance :FO Tryz.prog 175 0 0:=⟨KM⟩
instance :FO Tryz.prog 175 1 1:=⟨KL⟩
instance :FO Tryz.prog 175 2 2:=⟨KK⟩
instance :FO Tryz.prog 181 0 0:=⟨HN⟩
instance :FO Tryz.prog 181 1 1:=⟨HM⟩
instance :FO Tryz.prog 181 2 2:=⟨HJ⟩
instance :FO Tryz.prog 193 0 0:=⟨O7⟩
instance :FO Tryz.prog 195 0 0:=⟨OA⟩
instance :FO Tryz.prog 195 1 1:=⟨O9⟩
instance :FO Tryz.prog 195 2 2:=⟨O8⟩
instance :FO Tryz.prog 211 0 0:=⟨KP⟩
instance :FO Tryz.prog 211 1 1:=⟨KO⟩
instance :FO Tryz.prog 211 2 2:=⟨KN⟩
instance :T1 Tryz.prog 22:=⟨Uj⟩
instance :TA Tryz.prog 25 3:=⟨Jg⟩
instance :T1 Tryz.prog 27:=⟨Iq⟩
instance :T1 Tryz.prog 29:=⟨UD⟩
instance :T1 Tryz.prog 36:=⟨Xe⟩
instance :TA Tryz.prog 77 2:=⟨Vs⟩
instance :T1 Tryz.prog 84:=⟨JJ⟩
instance :T1 Tryz.prog 122:=⟨UC⟩
instance :T1 Tryz.prog 123:=⟨Hj⟩
instance :T1 Tryz.prog 132:=⟨YS⟩
instance :TA Tryz.prog 168 3:=⟨T8⟩
instance :T1 Tryz.prog 172:=⟨Zv⟩
instance :T1 Tryz.prog 173:=⟨EF⟩
instance :TA Tryz.prog 181 3:=⟨Jp⟩
instance :ZE Tryz.prog 25 [.int .i64 0,.nils,.nils]:=⟨Y3⟩
instance :ZE Tryz.prog 29 [.nilp]:=⟨Fi⟩
instance :ZE Tryz.prog 65 [.int .i64 0,.bool false]:=⟨E9⟩
instance :ZE Tryz.prog 71 [.nilp,.nilp]:=⟨Ff⟩
instance :ZE Tryz.prog 77 [.int .i64 0,.int .i64 0]:=⟨Zz⟩
instance :ZE Tryz.prog 86 [.nils,.nils,.nilp]:=⟨IY⟩
instance :ZE Tryz.prog 105 [.int .i64 0,.bool false]:=⟨XP⟩
instance :ZE Tryz.prog 109 [.nilp,.bool false,.bool false]:=⟨ZL⟩
instance :ZE Tryz.prog 125 [.int .i64 0,.nils,.nilm]:=⟨Hf⟩
instance :ZE Tryz.prog 132 [.nili]:=⟨EA⟩
instance :ZE Tryz.prog 164 [.int .i64 0,.bool false,.int .i64 0]:=⟨VR⟩
instance :ZE Tryz.prog 168 [.int .i64 0,.int .i64 0,.int .i64 0]:=⟨OV⟩
instance :ZE Tryz.prog 175 [.nilm,.nils,.nilp]:=⟨Fg⟩
instance :ZE Tryz.prog 181 [.nilf,.int .i64 0,.int .i64 0]:=⟨Eo⟩
instance :ZE Tryz.prog 193 [.int .i64 0]:=⟨IW⟩
instance :ZE Tryz.prog 195 [.int .i64 0,.int .i64 0,.int .i64 0]:=⟨IX⟩
instance :ZE Tryz.prog 211 [.nilp,.nilf,.nilm]:=⟨Fh⟩
instance :T1 Tryz.prog 3:=⟨Qr⟩
instance :T1 Tryz.prog 4:=⟨J3⟩
instance :T1 Tryz.prog 9:=⟨Ip⟩
instance :T1 Tryz.prog 42:=⟨Om⟩
instance :TA Tryz.prog 44 6:=⟨Jq⟩
instance :TA Tryz.prog 177 2:=⟨OZ⟩
instance :T1 Tryz.prog 54:=⟨Ja⟩
instance :ZE Tryz.prog 3 [.int .i64 0]:=⟨Vp⟩
instance :ZE Tryz.prog 4 [.bool false]:=⟨XV⟩
instance :ZE Tryz.prog 9 [.str []]:=⟨OU⟩
instance :ZE Tryz.prog 44 [.str [],.int .i64 0,.int .i64 0,.int .i64 0,.int .i64 0,.nils]:=⟨Cx⟩
instance :ZE Tryz.prog 177 [.int .i64 0,.int .i64 0]:=⟨ZB⟩
instance :ZE Tryz.prog 54 [.nils]:=⟨Ut⟩
instance :SZ Tryz.prog 22 1:=⟨UE⟩
instance :SZ Tryz.prog 25 3:=⟨QE⟩
instance :SZ Tryz.prog 122 1:=⟨Ft⟩
instance :SZ Tryz.prog 164 3:=⟨Fs⟩
instance :SZ Tryz.prog 168 3:=⟨T9⟩
instance :SZ Tryz.prog 173 1:=⟨Kb⟩
instance :SZ Tryz.prog 181 3:=⟨KD⟩
instance :SZ Tryz.prog 195 3:=⟨CA⟩
instance :SZ Tryz.prog 3 1:=⟨Lz⟩
instance :SZ Tryz.prog 4 1:=⟨AD⟩
instance :SZ Tryz.prog 44 6:=⟨ZC⟩
instance :SZ Tryz.prog 177 2:=⟨TB⟩
instance :SZ Tryz.prog 54 1:=⟨CB⟩
instance :UL Tryz.prog 142:=⟨_,IZ⟩
instance :SL Tryz.prog 142 9 1:=⟨CJ⟩
instance :UL Tryz.prog 42:=⟨_,Uo⟩
instance :UL Tryz.prog 54:=⟨_,Jh⟩
instance :SL Tryz.prog 54 3 1:=⟨QL⟩
instance :UL Tryz.prog 22:=⟨_,UX⟩
instance :ST Tryz.prog 25 [(0,1),(1,1),(2,1)] [.int .i64 0,.nils,.nils]:=⟨VG⟩
instance :ST Tryz.prog 65 [(0,1),(1,1)] [.int .i64 0,.bool false]:=⟨L7⟩
instance :ST Tryz.prog 71 [(0,1),(1,1)] [.nilp,.nilp]:=⟨On⟩
instance :ST Tryz.prog 77 [(0,1),(1,1)] [.int .i64 0,.int .i64 0]:=⟨F6⟩
instance :UL Tryz.prog 78:=⟨_,Ui⟩
instance :ST Tryz.prog 86 [(0,1),(1,1),(2,1)] [.nils,.nils,.nilp]:=⟨Kd⟩
instance :ST Tryz.prog 105 [(0,1),(1,1)] [.int .i64 0,.bool false]:=⟨AX⟩
instance :ST Tryz.prog 109 [(0,1),(1,1),(2,1)] [.nilp,.bool false,.bool false]:=⟨WT⟩
instance :UL Tryz.prog 111:=⟨_,Er⟩
instance :UL Tryz.prog 122:=⟨_,Xr⟩
instance :ST Tryz.prog 125 [(0,1),(1,1),(2,1)] [.int .i64 0,.nils,.nilm]:=⟨Bi⟩
instance :ST Tryz.prog 164 [(0,1),(1,1),(2,1)] [.int .i64 0,.bool false,.int .i64 0]:=⟨Ot⟩
instance :UL Tryz.prog 173:=⟨_,X2⟩
instance :ST Tryz.prog 175 [(0,1),(1,1),(2,1)] [.nilm,.nils,.nilp]:=⟨Oo⟩
instance :ST Tryz.prog 181 [(0,1),(1,1),(2,1)] [.nilf,.int .i64 0,.int .i64 0]:=⟨KE⟩
instance :ST Tryz.prog 193 [(0,1)] [.int .i64 0]:=⟨CF⟩
instance :ST Tryz.prog 195 [(0,1),(1,1),(2,1)] [.int .i64 0,.int .i64 0,.int .i64 0]:=⟨CG⟩
instance :ST Tryz.prog 211 [(0,1),(1,1),(2,1)] [.nilp,.nilf,.nilm]:=⟨Oq⟩
instance :SL Tryz.prog 22 4 1:=⟨Jz⟩
instance :SL Tryz.prog 78 77 2:=⟨X4⟩
instance :SL Tryz.prog 111 29 1:=⟨Y8⟩
instance :SL Tryz.prog 122 132 1:=⟨VV⟩
instance :SL Tryz.prog 173 177 2:=⟨EJ⟩
abbrev iZ(z:Int):AV:=.int .i64 z
abbrev iN(n:Nat):AV:=.int .i64 n
def SG(j:Nat)(q:St→Prop)(h0:Hp)(n0:Nat)(X:List Nat)(K:List (Nat×AV))(M:List (Nat×Nat×List AV))(F:Tr AV→St→Prop):Prop:= ∀T st,QX K T→q st→Mem h0 n0 X st M→F T st
def To(g g':Prop):Prop:=g'→g
structure PO(P:Program)(G:Env)(h0:Hp)(n0:Nat)(X:List Nat)(K:List (Nat×AV))(M:List (Nat×Nat×List AV))(op:Op)(v:AV):Prop where
 h: ∀st,Mem h0 n0 X st M→U0 P G K op st v st
section
variable {j:Nat} {q:St→Prop} {P:Program} {G:Env} {N:Nat} {h0:Hp} {n0:Nat} {X:List Nat} {K:List (Nat×AV)} {M:List (Nat×Nat×List AV)} {g':Prop} {ops rest:List Oper} {R:Tr AV→St→Prop} {Q:Ex→Tr AV→St→Prop} {d:Nat} {ty:TypeId} {pos:String} {af:Array Edge} {st:St} {op:Op} {u v:AV} {x y:Operand} {t yt:TypeId} {k:IntKind} {a b:Int} {r l:List AV} {c m off:Nat} {A B:Bool} {tys:Array TypeId} {s z:List Nat}
theorem By(h:QW G K x=some v):PO P G h0 n0 X K M (.move x) (v):=⟨fun _ hM=>Qg h⟩
theorem Hy(h:QW G K x=some v):PO P G h0 n0 X K M (.assign x) (v):=⟨fun _ hM=>U3 h⟩
theorem Us [ht:T1 P t](i:Nat)(h:QW G K x=some (.ptr c m off))(h1:M[i]? =some (c,m,l))(h2:nth l off=some v):PO P G h0 n0 X K M (.load t x) v:=⟨fun _ hM=>Qd h (hM.load h1 (Qf ht.h h2))⟩
theorem JI [ht:TA P t n](i:Nat)(h:QW G K x=some (.ptr c m off))(h1:M[i]? =some (c,m,l))(h2:Et n (Ew off l) (fun r=>some (AV.agg r))=some (.agg r)):PO P G h0 n0 X K M (.load t x) (.agg r):=⟨fun _ hM=>Qd h (hM.load h1 (QO ht.h h2))⟩
theorem S8{f o:Nat} [ho:FO P t f o](h:QW G K x=some (.ptr c m off)):PO P G h0 n0 X K M (.fieldAddr t x f) (.ptr c m (off+o)):=⟨fun _ hM=>Yb ho.h h⟩
theorem Bx(h:QW G K x=some (.ptr c m off)):PO P G h0 n0 X K M (.nilCheck x) (.ptr c m off):=⟨fun _ hM=>vR h rfl⟩
theorem S9(h:QW G K x=some (.tup l))(h':nth l i=some v):PO P G h0 n0 X K M (.extract x i) (v):=⟨fun _ hM=>Rf h h'⟩
theorem Bw{w1 w2:Operand}(h:QW G K x=some (.bool A))(h1:QW G K w1=some u)(h2:QW G K w2=some v):PO P G h0 n0 X K M (.pick x w1 w2) (Qo A u v):=⟨fun _ hM=>zL h h1 h2⟩
theorem Sx(h:QW G K x=some (.bool A)):PO P G h0 n0 X K M (.unOp .not t x) (.bool (!A)):=⟨fun _ hM=>LV h⟩
theorem S0(h:QW G K x=some (.int k a))(h':QW G K y=some (.int k b)):PO P G h0 n0 X K M (.binOp .lss t x y yt) (.bool (decide (a<b))):=⟨fun _ hM=>jt h h'⟩
theorem S6(h:QW G K x=some (.int k a))(h':QW G K y=some (.int k b)):PO P G h0 n0 X K M (.binOp .gtr t x y yt) (.bool (decide (b<a))):=⟨fun _ hM=>vU h h'⟩
theorem S5(h:QW G K x=some (.int k a))(h':QW G K y=some (.int k b)):PO P G h0 n0 X K M (.binOp .leq t x y yt) (.bool (decide (a≤b))):=⟨fun _ hM=>vT h h'⟩
theorem S7(h:QW G K x=some (.int k a))(h':QW G K y=some (.int k b)):PO P G h0 n0 X K M (.binOp .geq t x y yt) (.bool (decide (b≤a))):=⟨fun _ hM=>vV h h'⟩
theorem SB(h:QW G K x=some (.int k a))(h':QW G K y=some (.int k b)):PO P G h0 n0 X K M (.binOp .eql t x y yt) (.bool (decide (a=b))):=⟨fun _ hM=>jv h h'⟩
theorem Sz(h:QW G K x=some (.int k a))(h':QW G K y=some (.int k b)):PO P G h0 n0 X K M (.binOp .neq t x y yt) (.bool (!decide (a=b))):=⟨fun _ hM=>Rc h h'⟩
theorem SA(h:QW G K x=some (.str s))(h':QW G K y=some (.str z)):PO P G h0 n0 X K M (.binOp .eql t x y yt) (.bool (decide (s=z))):=⟨fun _ hM=>Jk h h'⟩
theorem Sy(h:QW G K x=some (.str s))(h':QW G K y=some (.str z)):PO P G h0 n0 X K M (.binOp .neq t x y yt) (.bool (!decide (s=z))):=⟨fun _ hM=>B5 h h'⟩
theorem SC(h:QW G K x=some (.int .i64 a))(h':QW G K y=some (.int .i64 b))(h1: -9223372036854775808≤a+b)(h2:a+b≤9223372036854775807):PO P G h0 n0 X K M (.binOp .add t x y yt) (.int .i64 (a+b)):=⟨fun _ _=>vW h h' h1 h2⟩
theorem Sw(h:QW G K x=some (.int .i64 a))(h':QW G K y=some (.int .i64 b))(h1: -9223372036854775808≤a-b)(h2:a-b≤9223372036854775807):PO P G h0 n0 X K M (.binOp .sub t x y yt) (.int .i64 (a-b)):=⟨fun _ _=>jn h h' h1 h2⟩
theorem Bz [hu:UL P t](h:QW G K x=some u)(h':Y9 u=some n):PO P G h0 n0 X K M (.call {callee:=.builtin .len,args:= #[x],argTypes:= #[t]}) (.int .i64 (n:Int)):=⟨fun _ _=>by obtain⟨e,hu⟩:=hu.h;exact QA hu rfl h h'⟩
theorem Ld{parts:Array (Nat×Operand)}{ps:List (Nat×AV)}{tbl:List (Nat×Nat)}{zz:List AV} [hs:ST P t tbl zz](h:Zo (QW G K) parts=some ps)(h':XC (nth tbl) ps zz=some r):PO P G h0 n0 X K M (.build t parts) (.agg r):=⟨fun _ hM=>W2 hs.h h h'⟩
theorem q5{k:Tr AV→St→Prop}(h:To (SG j q h0 n0 X K M (k)) g'):To (SG j q h0 n0 X K M (Ly k Q .nor)) g':=h
theorem vd(h:To (SG j q h0 n0 X K M (Q .nor)) g'):To (SG j q h0 n0 X K M (Ck id Q .nor)) g':=h
theorem va{a b:Code}(h:To (SG j q h0 n0 X K M (W P G N (a) (Ly (W P G N b Q) Q))) g'):To (SG j q h0 n0 X K M (W P G N (.seq a b) Q)) g':=fun h' T st hK hq hM=>QC (h h' T st hK hq hM)
theorem Si{c:Code}(h:To (SG j q h0 n0 X K M (W P G N (c) (Ck id Q))) g'):To (SG j q h0 n0 X K M (W P G N (.block id c) Q)) g':=fun h' T st hK hq hM=>Ba (h h' T st hK hq hM)
theorem q6(h:To (SG j q h0 n0 X K M (Q .nor)) g'):To (SG j q h0 n0 X K M (W P G N (.skip) Q)) g':=fun h' T st hK hq hM=>Xi (h h' T st hK hq hM)
theorem Sh{l:Nat}(h:To (SG j q h0 n0 X K M (Q .nor)) g'):To (SG j q h0 n0 X K M (W P G N (.label l) Q)) g':=fun h' T st hK hq hM=>zd (h h' T st hK hq hM)
theorem C9{l:List Oper}(h:To (SG j q h0 n0 X K M (WR P G N l l (Q .nor))) g'):To (SG j q h0 n0 X K M (W P G N (.region id l.toArray false) Q)) g':=fun h' T st hK hq hM=>Qw (h h' T st hK hq hM)
theorem vb(h:To (SG j q h0 n0 X K M (R)) g'):To (SG j q h0 n0 X K M (WR P G N ops [] R)) g':=fun h' T st hK hq hM=>Up (h h' T st hK hq hM)
theorem eM{a b:Code}(hg:QW G K g=some (.bool true))(h:To (SG j q h0 n0 X K M (W P G N (a) Q)) g'):To (SG (j+1) q h0 n0 X K M (W P G N (.cond g a b) Q)) g':=fun h' T st hK hq hM=>Qq (hK.QH hg) (fun _=>h h' T st hK hq hM) (fun e=>by cases e)
theorem eN{a b:Code}(hg:QW G K g=some (.bool false))(h:To (SG j q h0 n0 X K M (W P G N (b) Q)) g'):To (SG (j+1) q h0 n0 X K M (W P G N (.cond g a b) Q)) g':=fun h' T st hK hq hM=>Qq (hK.QH hg) (fun e=>by cases e) (fun _=>h h' T st hK hq hM)
theorem aZ(hp:PO P G h0 n0 X K M op v)(hN:Nat.ble (d+1) N=true)(h:To (SG j q h0 n0 X ((d,v)::K) M (WR P G N ops rest R)) g'):To (SG (j+1) q h0 n0 X K M (WR P G N ops (⟨some d,op,ty,pos,af,none⟩::rest) R)) g':=fun h' T st hK hq hM=>o1 hK (hp.h st hM) hN fun T' hK'=>h h' T' st hK' hq hM
theorem fe(hp:PO P G h0 n0 X K M op v)(hh:Yd ops jj=some tt∧K.lookup tt=some (.bool pol)∧Nat.ble (d+1) N=true)(h:To (SG j q h0 n0 X ((d,v)::K) M (WR P G N ops rest R)) g'):To (SG (j+1) q h0 n0 X K M (WR P G N ops (⟨some d,op,ty,pos,af,some (jj,pol)⟩::rest) R)) g':=fun h' T st hK hq hM=>og hK hh.1 hh.2.1 (hp.h st hM) hh.2.2 fun T' hK'=>h h' T' st hK' hq hM
theorem eL(hh:Yd ops jj=some tt∧K.lookup tt=some (.bool A)∧(A==pol)=false∧Nat.ble (d+1) N=true)(h:To (SG j q h0 n0 X ((d,.tup [])::K) M (WR P G N ops rest R)) g'):To (SG (j+1) q h0 n0 X K M (WR P G N ops (⟨some d,op,ty,pos,af,some (jj,pol)⟩::rest) R)) g':=fun h' T st hK hq hM=>gn hK hh.1 hh.2.1 hh.2.2.1 hh.2.2.2 fun T' hK'=>h h' T' st hK' hq hM
theorem vc(hh:Yd ops jj=some tt∧K.lookup tt=some (.tup [])∧Nat.ble (d+1) N=true)(h:To (SG j q h0 n0 X ((d,.tup [])::K) M (WR P G N ops rest R)) g'):To (SG (j+1) q h0 n0 X K M (WR P G N ops (⟨some d,op,ty,pos,af,some (jj,pol)⟩::rest) R)) g':=fun h' T st hK hq hM=>fx hK hh.1 hh.2.1 hh.2.2 fun T' hK'=>h h' T' st hK' hq hM
theorem WQ [hz:SZ P t n](i:Nat){r':List AV}(hh:QW G K x=some (.ptr c m off)∧QW G K y=some v∧M[i]? =some (c,m,r)∧(Jl v).length=n∧Vi Qu (Jl v)=true∧Zn (Jl v) off r=some r')(h:To (SG j (fun _=>True) h0 n0 X K (M.set i (c,m,r')) (WR P G N ops rest R)) g'):To (SG (j+1) (fun _=>True) h0 n0 X K M (WR P G N ops (⟨none,.store t x y,ty,pos,af,none⟩::rest) R)) g':=fun h' T st hK _ hM=>QV (k:=i) hK hM hh.1 hh.2.1 hh.2.2.1 hz.h hh.2.2.2.1 hh.2.2.2.2.1 hh.2.2.2.2.2 fun st' hM'=>h h' T st' hK trivial hM'
theorem zq{g:Nat→Prop} [hz:ZE P t l](hN:Nat.ble (d+1) N=true)(h: ∀c,To (SG j (fun _=>True) h0 n0 X ((d,.ptr c 0 0)::K) ((c,0,l)::M) (WR P G N ops rest R)) (g c)):To (SG (j+1) (fun _=>True) h0 n0 X K M (WR P G N ops (⟨some d,.alloc t,ty,pos,af,none⟩::rest) R)) (∀c,g c):=fun h' T st hK _ hM=>Ls hK hM hz.h (Nat.le_of_ble_eq_true hN) fun c T' st' hK' hM'=>h c (h' c) T' st' hK' trivial hM'
theorem eO{g:Nat→Prop}(hh:QW G K x=some v∧Nat.ble (d+1) N=true)(hc:True→Vi Qu (Jl v)=true)(h: ∀c,To (SG j (fun _=>True) h0 n0 X ((d,.ptr c 0 0)::K) ((c,0,Jl v)::M) (WR P G N ops rest R)) (g c)):To (SG (j+1) (fun _=>True) h0 n0 X K M (WR P G N ops (⟨some d,.box t x,ty,pos,af,none⟩::rest) R)) (∀c,g c):=fun h' T st hK _ hM=>J1 hK hM hh.1 (hc trivial) (Nat.le_of_ble_eq_true hh.2) fun c T' st' hK' hM'=>h c (h' c) T' st' hK' trivial hM'
theorem aL{g:Nat→Prop}{e:TypeId}{len w:Nat}{parts:Array (Nat×Operand)}{ps:List (Nat×AV)} [hs:SL P t e w] [hz:ZE P e l](hh:Zo (QW G K) parts=some ps∧XC (fun i=>some (i *w,w)) ps (Vb len l)=some r∧Vi Qu r=true∧Nat.ble (len *w) 16777216=true∧Nat.ble (d+1) N=true)(h: ∀c,To (SG j (fun _=>True) h0 n0 X ((d,.sl c 0 0 len w)::K) ((c,0,r)::M) (WR P G N ops rest R)) (g c)):To (SG (j+1) (fun _=>True) h0 n0 X K M (WR P G N ops (⟨some d,.buildSlice t len parts,ty,pos,af,none⟩::rest) R)) (∀c,g c):=fun h' T st hK _ hM=>Xy hK hM hs.h hz.h hh.1 hh.2.1 hh.2.2.1 hh.2.2.2.1 hh.2.2.2.2 fun c T' st' hK' hM'=>h c (h' c) T' st' hK' trivial hM'
theorem vF{g:Prop}:To g g:=id
theorem zo:To (SG j (fun s=>s=st) h0 n0 X K M (F)) (∀T,QX K T→F T st):=fun h T _ hK hq hM=>hq▸h T hK
theorem aG{k:Tr AV→St→Prop}(h:To (SG j q h0 n0 X K M (W P G N (.ret) Q)) g'):To (SG j q h0 n0 X K M (W P G N (.ret) (Ly k Q))) g':=fun h' T st hK hq hM=>Ju (by have h2:=h h' T st hK hq hM;obtain⟨L,n,x,T',st',h3,h4⟩:=h2;injection h3 with h3;injection h3 with h5 h6;injection h6 with h6 h7;subst h5 h6 h7;exact h4)
theorem aH(h:To (SG j q h0 n0 X K M (W P G N (.ret) Q)) g'):To (SG j q h0 n0 X K M (W P G N (.ret) (Ck id Q))) g':=fun h' T st hK hq hM=>Ju (by have h2:=h h' T st hK hq hM;obtain⟨L,n,x,T',st',h3,h4⟩:=h2;injection h3 with h3;injection h3 with h5 h6;injection h6 with h6 h7;subst h5 h6 h7;exact h4)
theorem aJ{Z:AV→St→Prop}{rs:List ResultVar}(hr:rs=[.tmp t1])(hh:K.lookup t1=some v):To (SG j (fun s=>s=st) h0 n0 X K M (W P G N (.ret) (fun x T s=>(x=.nor∨x=.ret)∧ ∃v,J6 P rs T s=some v∧Z v s))) (Z v st):=fun h' T s hK hq hM=>Ju ⟨.inr rfl,_,by rw[hr];exact Lb (Q8 hK hh),by subst hq;exact h'⟩
theorem aI{t2:Nat}{Z:AV→St→Prop}{rs:List ResultVar}(hr:rs=[.tmp t1,.tmp t2])(hh:K.lookup t1=some u∧K.lookup t2=some v):To (SG j (fun s=>s=st) h0 n0 X K M (W P G N (.ret) (fun x T s=>(x=.nor∨x=.ret)∧ ∃v,J6 P rs T s=some v∧Z v s))) (Z (.tup [u,v]) st):=fun h' T s hK hq hM=>Ju ⟨.inr rfl,_,by rw[hr];exact Ub (Q8 hK hh.1) (Q8 hK hh.2),by subst hq;exact h'⟩
theorem vE{Z:AV→St→Prop}{rs:List ResultVar}(i:Nat)(ht:TA P t n)(hr:rs=[.cell t1 t])(hh:K.lookup t1=some (.ptr c m off)∧M[i]? =some (c,m,l)∧Et n (Ew off l) (fun r=>some (AV.agg r))=some (.agg r)):To (SG j (fun s=>s=st) h0 n0 X K M (W P G N (.ret) (fun x T s=>(x=.nor∨x=.ret)∧ ∃v,J6 P rs T s=some v∧Z v s))) (Z (.agg r) st):=fun h' T s hK hq hM=>Ju ⟨.inr rfl,_,by rw[hr];exact Lb (JD hK hh.1 (hM.load hh.2.1 (QO ht.h hh.2.2))),by subst hq;exact h'⟩
theorem au(j:Nat){T:Tr AV}{st:St}(hK:QX K T)(hM:Mem h0 n0 X st M)(hn:g')(h:To (SG j (fun _=>True) h0 n0 X K M (F)) g':=by
 repeat' first
  |with_reducible refine' q5 ?_
  |with_reducible refine' vd ?_
  |with_reducible refine' va ?_
  |with_reducible refine' vb ?_
  |with_reducible refine' Si ?_
  |with_reducible refine' q6 ?_
  |with_reducible refine' Sh ?_
  |with_reducible refine' C9 ?_
  |((first|with_reducible refine' aZ ?_ ?_ ?_|with_reducible refine' fe ?_ ?_ ?_);(any_goals(first|(apply By<;>exact rfl)|(apply Hy<;>exact rfl)|(apply Us 0<;>exact rfl)|(apply Us 1<;>exact rfl)|(apply Us 2<;>exact rfl)|(apply Us 3<;>exact rfl)|(apply Us 4<;>exact rfl)|(apply Us 5<;>exact rfl)|(apply Us 6<;>exact rfl)|(apply JI 0<;>exact rfl)|(apply JI 1<;>exact rfl)|(apply JI 2<;>exact rfl)|(apply JI 3<;>exact rfl)|(apply JI 4<;>exact rfl)|(apply JI 5<;>exact rfl)|(apply JI 6<;>exact rfl)|(apply S8<;>exact rfl)|(apply Bx<;>exact rfl)|(apply S9<;>exact rfl)|(apply Bw<;>exact rfl)|(apply Sx<;>exact rfl)|(apply S0<;>exact rfl)|(apply S6<;>exact rfl)|(apply S5<;>exact rfl)|(apply S7<;>exact rfl)|(apply SB<;>exact rfl)|(apply Sz<;>exact rfl)|(apply SA<;>exact rfl)|(apply Sy<;>exact rfl)|(apply SC;exact rfl;exact rfl;omega;omega)|(apply Sw;exact rfl;exact rfl;omega;omega)|(apply Bz<;>exact rfl)|(apply Ld<;>exact rfl)));any_goals first|exact rfl|exact⟨rfl,rfl,rfl⟩)
  |((with_reducible refine' eL ?_ ?_);any_goals exact⟨rfl,rfl,rfl,rfl⟩)
  |((with_reducible refine' vc ?_ ?_);any_goals exact⟨rfl,rfl,rfl⟩)
  |((with_reducible refine' eM ?_ ?_);any_goals exact rfl)
  |((with_reducible refine' eN ?_ ?_);any_goals exact rfl)
  |((with_reducible refine' WQ 0 ?_ ?_);any_goals exact⟨rfl,rfl,rfl,rfl,rfl,rfl⟩)
  |((with_reducible refine' WQ 1 ?_ ?_);any_goals exact⟨rfl,rfl,rfl,rfl,rfl,rfl⟩)
  |((with_reducible refine' WQ 2 ?_ ?_);any_goals exact⟨rfl,rfl,rfl,rfl,rfl,rfl⟩)
  |((with_reducible refine' WQ 3 ?_ ?_);any_goals exact⟨rfl,rfl,rfl,rfl,rfl,rfl⟩)
  |((with_reducible refine' WQ 4 ?_ ?_);any_goals exact⟨rfl,rfl,rfl,rfl,rfl,rfl⟩)
  |((with_reducible refine' WQ 5 ?_ ?_);any_goals exact⟨rfl,rfl,rfl,rfl,rfl,rfl⟩)
  |((with_reducible refine' WQ 6 ?_ ?_);any_goals exact⟨rfl,rfl,rfl,rfl,rfl,rfl⟩)
  |((with_reducible refine' zq ?_ fun _=>?_);any_goals exact rfl)
  |((with_reducible refine' aL ?_ fun _=>?_);any_goals exact⟨rfl,rfl,rfl,rfl,rfl⟩)
  |((with_reducible refine' eO ?_ ?_ fun _=>?_);(any_goals exact⟨rfl,rfl⟩);any_goals(intro(_:True);(repeat first|exact rfl|assumption|refine Qb ?_ ?_);done))
  |with_reducible exact vF):F T st:=h hn T st hK trivial hM
theorem Qc(j:Nat){T:Tr AV}{st:St}(hK:QX K T)(hM:Mem h0 n0 X st M)(hn:g')(h:To (SG j (fun s=>s=st) h0 n0 X K M (F)) g':=by
 repeat' first
  |with_reducible refine' q5 ?_
  |with_reducible refine' vd ?_
  |with_reducible refine' va ?_
  |with_reducible refine' vb ?_
  |with_reducible refine' Si ?_
  |with_reducible refine' q6 ?_
  |with_reducible refine' Sh ?_
  |with_reducible refine' C9 ?_
  |((first|with_reducible refine' aZ ?_ ?_ ?_|with_reducible refine' fe ?_ ?_ ?_);(any_goals(first|(apply By<;>exact rfl)|(apply Hy<;>exact rfl)|(apply Us 0<;>exact rfl)|(apply Us 1<;>exact rfl)|(apply Us 2<;>exact rfl)|(apply Us 3<;>exact rfl)|(apply Us 4<;>exact rfl)|(apply Us 5<;>exact rfl)|(apply Us 6<;>exact rfl)|(apply JI 0<;>exact rfl)|(apply JI 1<;>exact rfl)|(apply JI 2<;>exact rfl)|(apply JI 3<;>exact rfl)|(apply JI 4<;>exact rfl)|(apply JI 5<;>exact rfl)|(apply JI 6<;>exact rfl)|(apply S8<;>exact rfl)|(apply Bx<;>exact rfl)|(apply S9<;>exact rfl)|(apply Bw<;>exact rfl)|(apply Sx<;>exact rfl)|(apply S0<;>exact rfl)|(apply S6<;>exact rfl)|(apply S5<;>exact rfl)|(apply S7<;>exact rfl)|(apply SB<;>exact rfl)|(apply Sz<;>exact rfl)|(apply SA<;>exact rfl)|(apply Sy<;>exact rfl)|(apply SC;exact rfl;exact rfl;omega;omega)|(apply Sw;exact rfl;exact rfl;omega;omega)|(apply Bz<;>exact rfl)|(apply Ld<;>exact rfl)));any_goals first|exact rfl|exact⟨rfl,rfl,rfl⟩)
  |((with_reducible refine' eL ?_ ?_);any_goals exact⟨rfl,rfl,rfl,rfl⟩)
  |((with_reducible refine' vc ?_ ?_);any_goals exact⟨rfl,rfl,rfl⟩)
  |((with_reducible refine' eM ?_ ?_);any_goals exact rfl)
  |((with_reducible refine' eN ?_ ?_);any_goals exact rfl)
  |with_reducible refine' aG ?_
  |with_reducible refine' aH ?_
  |((with_reducible refine' aJ ?_ ?_);any_goals exact rfl)
  |((with_reducible refine' aI ?_ ?_);(any_goals exact rfl);any_goals exact⟨rfl,rfl⟩)
  |((with_reducible refine' vE 0 ?_ ?_ ?_);(any_goals exact rfl);(any_goals infer_instance);any_goals exact⟨rfl,rfl,rfl⟩)
  |((with_reducible refine' vE 1 ?_ ?_ ?_);(any_goals exact rfl);(any_goals infer_instance);any_goals exact⟨rfl,rfl,rfl⟩)
  |((with_reducible refine' vE 2 ?_ ?_ ?_);(any_goals exact rfl);(any_goals infer_instance);any_goals exact⟨rfl,rfl,rfl⟩)
  |with_reducible exact zo):F T st:=h hn T st hK rfl hM
def DG(P:Program)(G:Env)(N:Nat)(h0:Hp)(n0:Nat)(X:List Nat)(M:List (Nat×Nat×List AV))(st:St)(sn:List St)(ops:List Oper)(R:Tr AV→St→Prop)(j:Nat)(w:List (Nat×Nat))(K:List (Nat×AV)):Prop:=Mem h0 n0 X st M→ ∀T,QX K T→WD P G N ops (w.map (Yz ops)) R T st sn
theorem fp(ho:ops[i]? =some (⟨some d,op,ty,pos,af,none⟩))(hp:PO P G h0 n0 X K M op v)(hh:Nat.beq (QG P op) 3=false∧Nat.ble (d+1) N=true)(h:To (DG P G N h0 n0 X M st sn ops R j w ((d,v)::K)) g'):To (DG P G N h0 n0 X M st sn ops R (j+1) ((i,0)::w) K) g':=fun h' hM T hK=>d1 ho hK (hp.h st hM) hh.1 hh.2 fun T' hK'=>h h' hM T' hK'
theorem aK(ho:ops[i]? =some (⟨some d,op,ty,pos,af,some (jj,pol)⟩))(hp:PO P G h0 n0 X K M op v)(hh:Yd ops jj=some tt∧K.lookup tt=some (.bool pol)∧Nat.beq (QG P op) 3=false∧Nat.ble (d+1) N=true)(h:To (DG P G N h0 n0 X M st sn ops R j w ((d,v)::K)) g'):To (DG P G N h0 n0 X M st sn ops R (j+1) ((i,0)::w) K) g':=fun h' hM T hK=>dg ho hK hh.1 hh.2.1 (hp.h st hM) hh.2.2.1 hh.2.2.2 fun T' hK'=>h h' hM T' hK'
theorem zp:To (DG P G N h0 n0 X M st sn ops R i w K) (∀T,QX K T→WD P G N ops (w.map (Yz ops)) R T st sn):=fun h _=>h
theorem Jn(j:Nat){T:Tr AV}(hK:QX K T)(hM:Mem h0 n0 X st M)(hn:g')(h:To (DG P G N h0 n0 X M st sn ops R j w K) g':=by
 repeat' first
  |((first|with_reducible refine' fp ?_ ?_ ?_ ?_);(any_goals exact rfl);(any_goals(first|(apply By<;>exact rfl)|(apply Hy<;>exact rfl)|(apply Us 0<;>exact rfl)|(apply Us 1<;>exact rfl)|(apply Us 2<;>exact rfl)|(apply Us 3<;>exact rfl)|(apply Us 4<;>exact rfl)|(apply Us 5<;>exact rfl)|(apply Us 6<;>exact rfl)|(apply JI 0<;>exact rfl)|(apply JI 1<;>exact rfl)|(apply JI 2<;>exact rfl)|(apply JI 3<;>exact rfl)|(apply JI 4<;>exact rfl)|(apply JI 5<;>exact rfl)|(apply JI 6<;>exact rfl)|(apply S8<;>exact rfl)|(apply Bx<;>exact rfl)|(apply S9<;>exact rfl)|(apply Bw<;>exact rfl)|(apply Sx<;>exact rfl)|(apply S0<;>exact rfl)|(apply S6<;>exact rfl)|(apply S5<;>exact rfl)|(apply S7<;>exact rfl)|(apply SB<;>exact rfl)|(apply Sz<;>exact rfl)|(apply SA<;>exact rfl)|(apply Sy<;>exact rfl)|(apply SC;exact rfl;exact rfl;omega;omega)|(apply Sw;exact rfl;exact rfl;omega;omega)|(apply Bz<;>exact rfl)|(apply Ld<;>exact rfl)));any_goals exact⟨rfl,rfl⟩)
  |((with_reducible refine' aK ?_ ?_ ?_ ?_);(any_goals exact rfl);(any_goals(first|(apply By<;>exact rfl)|(apply Hy<;>exact rfl)|(apply Us 0<;>exact rfl)|(apply Us 1<;>exact rfl)|(apply Us 2<;>exact rfl)|(apply Us 3<;>exact rfl)|(apply Us 4<;>exact rfl)|(apply Us 5<;>exact rfl)|(apply Us 6<;>exact rfl)|(apply JI 0<;>exact rfl)|(apply JI 1<;>exact rfl)|(apply JI 2<;>exact rfl)|(apply JI 3<;>exact rfl)|(apply JI 4<;>exact rfl)|(apply JI 5<;>exact rfl)|(apply JI 6<;>exact rfl)|(apply S8<;>exact rfl)|(apply Bx<;>exact rfl)|(apply S9<;>exact rfl)|(apply Bw<;>exact rfl)|(apply Sx<;>exact rfl)|(apply S0<;>exact rfl)|(apply S6<;>exact rfl)|(apply S5<;>exact rfl)|(apply S7<;>exact rfl)|(apply SB<;>exact rfl)|(apply Sz<;>exact rfl)|(apply SA<;>exact rfl)|(apply Sy<;>exact rfl)|(apply SC;exact rfl;exact rfl;omega;omega)|(apply Sw;exact rfl;exact rfl;omega;omega)|(apply Bz<;>exact rfl)|(apply Ld<;>exact rfl)));any_goals exact⟨rfl,rfl,rfl,rfl⟩)
  |with_reducible exact zp):WD P G N ops (w.map (Yz ops)) R T st sn:=h hn hM T hK
end
section
variable {P:Program} {G:Env} {N:Nat} {h0:Hp} {n0:Nat} {X:List Nat} {K:List (Nat×AV)} {M:List (Nat×Nat×List AV)} {ops rest:List Oper} {R:Tr AV→St→Prop} {Q:Ex→Tr AV→St→Prop} {d:Nat} {ty:TypeId} {pos:String} {af:Array Edge} {T:Tr AV} {st:St}
theorem JN{a b:Code}{p:Prop} [Decidable p](hK:QX K T)(hg:QW G K g=some (.bool (decide p)))(ha:p→W P G N a Q T st)(hb: ¬p→W P G N b Q T st):W P G N (.cond g a b) Q T st:=Qq (hK.QH hg) (fun h=>ha (of_decide_eq_true h)) fun h=>hb (of_decide_eq_false h)
theorem eI{a b:Code}{p:Prop} [Decidable p](hK:QX K T)(hg:QW G K g=some (.bool (!decide p)))(ha: ¬p→W P G N a Q T st)(hb:p→W P G N b Q T st):W P G N (.cond g a b) Q T st:=Qq (hK.QH hg) (fun h=>ha (by simpa using h)) fun h=>hb (by simpa using h)
theorem oQ{args:Array Operand}{tys:Array TypeId}{l:List AV}{u:AV}(hK:QX K T)(hM:Mem h0 n0 X st M)(h: ∃v st',Ev P G f l st v st'∧v=u∧Qt st st')(ha:Uw (QW G K) args.toList=some l)(hN:Nat.ble (d+1) N=true)(hn: ∀T' st',QX ((d,u)::K) T'→Mem h0 n0 X st' M→WR P G N ops rest R T' st'):
  WR P G N ops (⟨some d,.call {callee:=.value (.func f),args:=args,argTypes:=tys},ty,pos,af,none⟩::rest) R T st:=by
 obtain⟨v,st',ev,rfl,q⟩:=h;exact o1 hK (Qh ha ev) hN fun T' hK'=>hn T' st' hK' (hM.quiet q)
theorem oR{args:Array Operand}{tys:Array TypeId}{l:List AV}{u:AV}(k:Nat){c m m':Nat}{r r':List AV}(hK:QX K T)(hM:Mem h0 n0 X st M)(h: ∃v st',Ev P G f l st v st'∧v=u∧xV [c] st st'∧Q4 st'.h.get c m' r')(hk:M[k]? =some (c,m,r))(ha:Uw (QW G K) args.toList=some l)(hN:Nat.ble (d+1) N=true)(hn: ∀T' st',QX ((d,u)::K) T'→Mem h0 n0 X st' (M.set k (c,m',r'))→WR P G N ops rest R T' st'):
  WR P G N ops (⟨some d,.call {callee:=.value (.func f),args:=args,argTypes:=tys},ty,pos,af,none⟩::rest) R T st:=by
 obtain⟨v,st',ev,rfl,q,w⟩:=h;exact o1 hK (Qh ha ev) hN fun T' hK'=>hn T' st' hK' (hM.yk hk q w)
theorem BT{fn:Func}{c:Code}{N:Nat}{rs:List ResultVar}{args:List AV}{Q:AV→St→Prop}(hs:G.s f=none)(hf:P.funcs[f]? =some fn)(hb:fn.body=some c)(hN:fn.ntmps=N)(hr:fn.results.toList=rs)
 (h: ∀T,(∀t,Y0 T t=(args[t]?).getD (.tup []))→W P G N c (fun x T st=>(x=.nor∨x=.ret)∧ ∃v,J6 P rs T st=some v∧Q v st) T st) (hname:(fn.name== "runtime.NumGoroutine")=false:=by decide) (hl:args.length≤N:=by simp): ∃v st',Ev P G f args st v st'∧Q v st':=vj hs hf hb hN hr hname hl h
theorem fq{t:Nat}{v:AV}(hK:QX K T)(h:K.lookup t=some v):J6 P [.tmp t] T st=some v:=Lb (Q8 hK h)
theorem rt2{t s:Nat}{u v:AV}(hK:QX K T)(h:K.lookup t=some u)(h':K.lookup s=some v):J6 P [.tmp t,.tmp s] T st=some (.tup [u,v]):=Ub (Q8 hK h) (Q8 hK h')
theorem ff{a:Nat}{t:TypeId}{l r:List AV} [ht:TA P t n](k:Nat){c m off:Nat}(hK:QX K T)(hM:Mem h0 n0 X st M)(h:K.lookup a=some (.ptr c m off))(hk:M[k]? =some (c,m,l))(hl:Et n (Ew off l) (fun r=>some (AV.agg r))=some (.agg r)):J6 P [.cell a t] T st=some (.agg r):=Lb (JD hK h (hM.load hk (QO ht.h hl)))
theorem Un{op:Op}{p:Prop} [Decidable p](hK:QX K T)(h:U0 P G K op st (.bool (decide p)) st)(hN:Nat.ble (d+1) N=true)(hf: ∀T',¬p→QX ((d,.bool false)::K) T'→WR P G N ops rest R T' st)(ht: ∀T',p→QX ((d,.bool true)::K) T'→WR P G N ops rest R T' st):WR P G N ops (⟨some d,op,ty,pos,af,none⟩::rest) R T st:=oB hK h hN (fun b T' e K'=>by cases b;exact hf T' (of_decide_eq_false e) K';exact ht T' (of_decide_eq_true e) K')
theorem xc{op:Op}{p:Prop} [Decidable p](hK:QX K T)(h:U0 P G K op st (.bool (!decide p)) st)(hN:Nat.ble (d+1) N=true)(hf: ∀T',p→QX ((d,.bool false)::K) T'→WR P G N ops rest R T' st)(ht: ∀T',¬p→QX ((d,.bool true)::K) T'→WR P G N ops rest R T' st):WR P G N ops (⟨some d,op,ty,pos,af,none⟩::rest) R T st:=oB hK h hN (fun b T' e K'=>by cases b;exact hf T' ((by simpa using e)) K';exact ht T' ((by simpa using e)) K')
theorem LZ{op:Op}{p:Prop} [Decidable p](hK:QX K T)(hd:Yd ops jj=some tt)(hb:K.lookup tt=some (.bool pol))(h:U0 P G K op st (.bool (decide p)) st)(hN:Nat.ble (d+1) N=true)(hf: ∀T',¬p→QX ((d,.bool false)::K) T'→WR P G N ops rest R T' st)(ht: ∀T',p→QX ((d,.bool true)::K) T'→WR P G N ops rest R T' st):WR P G N ops (⟨some d,op,ty,pos,af,some (jj,pol)⟩::rest) R T st:=aO hK hd hb h hN (fun b T' e K'=>by cases b;exact hf T' (of_decide_eq_false e) K';exact ht T' (of_decide_eq_true e) K')
theorem fv{op:Op}{p:Prop} [Decidable p](hK:QX K T)(hd:Yd ops jj=some tt)(hb:K.lookup tt=some (.bool pol))(h:U0 P G K op st (.bool (!decide p)) st)(hN:Nat.ble (d+1) N=true)(hf: ∀T',p→QX ((d,.bool false)::K) T'→WR P G N ops rest R T' st)(ht: ∀T',¬p→QX ((d,.bool true)::K) T'→WR P G N ops rest R T' st):WR P G N ops (⟨some d,op,ty,pos,af,some (jj,pol)⟩::rest) R T st:=aO hK hd hb h hN (fun b T' e K'=>by cases b;exact hf T' ((by simpa using e)) K';exact ht T' ((by simpa using e)) K')
theorem dBp{op:Op}{p:Prop} [Decidable p](ho:ops[i]? =some (⟨some d,op,ty,pos,af,none⟩))(hK:QX K T)(h:U0 P G K op st (.bool (decide p)) st)(hk:Nat.beq (QG P op) 3=false)(hN:Nat.ble (d+1) N=true)(hf: ∀T',¬p→QX ((d,.bool false)::K) T'→WD P G N ops (w.map (Yz ops)) R T' st sn)(ht: ∀T',p→QX ((d,.bool true)::K) T'→WD P G N ops (w.map (Yz ops)) R T' st sn):WD P G N ops (((i,0)::w).map (Yz ops)) R T st sn:=dB ho hK h hk hN (fun b T' e K'=>by cases b;exact hf T' (of_decide_eq_false e) K';exact ht T' (of_decide_eq_true e) K')
theorem dBn{op:Op}{p:Prop} [Decidable p](ho:ops[i]? =some (⟨some d,op,ty,pos,af,none⟩))(hK:QX K T)(h:U0 P G K op st (.bool (!decide p)) st)(hk:Nat.beq (QG P op) 3=false)(hN:Nat.ble (d+1) N=true)(hf: ∀T',p→QX ((d,.bool false)::K) T'→WD P G N ops (w.map (Yz ops)) R T' st sn)(ht: ∀T',¬p→QX ((d,.bool true)::K) T'→WD P G N ops (w.map (Yz ops)) R T' st sn):WD P G N ops (((i,0)::w).map (Yz ops)) R T st sn:=dB ho hK h hk hN (fun b T' e K'=>by cases b;exact hf T' ((by simpa using e)) K';exact ht T' ((by simpa using e)) K')
def ef:Nat→List AV→List (Nat×AV)
 |_,[]=>[]
 |i,v::l=>(i,v)::ef (i+1) l
theorem T0: ∀(l:List AV) (i:Nat),(∀t,i≤t→Y0 T t=(l[t-i]?).getD (.tup []))→QX (ef i l) T
 |[],_,_=>.nil
 |v::l,i,h=>.cons (by have:=h i (Nat.le_refl _);rwa [Nat.sub_self]at this) (T0 l (i+1) fun t ht=>by
  have:=h t Qe;rw[show t-i=t-(i+1)+1 by omega]at this
  exact this)
theorem JB{fn:Func}{c:Code}{N:Nat}{args:List AV}{Q:AV→St→Prop}(hf:P.funcs[f]? =some fn)(hN:fn.ntmps=N)
 (h: ∀T,QX (ef 0 args) T→W P G N c (fun x T st=>(x=.nor∨x=.ret)∧ ∃v,J6 P fn.results.toList T st=some v∧Q v st) T st) (hs:G.s f=none:=by rfl) (hb:fn.body=some c:=by rfl) (hname:(fn.name== "runtime.NumGoroutine")=false:=by decide) (hl:args.length≤N:=by simp): ∃v st',Ev P G f args st v st'∧Q v st':=vj hs hf hb hN rfl hname hl fun T hT=>h T (T0 args 0 fun t _=>hT t)
theorem p1{op:Op}{v:AV}(hK:QX K T)(h:U0 P G K op st v st1)(hn: ∀T',QX ((d,v)::K) T'→WR P G N ops rest R T' st1)(hN:Nat.ble (d+1) N=true:=by exact rfl):WR P G N ops (⟨some d,op,ty,pos,af,none⟩::rest) R T st:=o1 hK h hN hn
theorem pg{j t:Nat}{op:Op}{v:AV}(hK:QX K T)(ht:Yd ops j=some t)(hb:K.lookup t=some (.bool pol))(h:U0 P G K op st v st1)(hn: ∀T',QX ((d,v)::K) T'→WR P G N ops rest R T' st1)(hN:Nat.ble (d+1) N=true:=by exact rfl):WR P G N ops (⟨some d,op,ty,pos,af,some (j,pol)⟩::rest) R T st:=og hK ht hb h hN hn
theorem q1{r:List (Nat×Nat)}{op:Op}{v:AV}(ho:ops[i]? =some ⟨some d,op,ty,pos,af,none⟩)(hK:QX K T)(h:U0 P G K op st v st1)(hn: ∀T',QX ((d,v)::K) T'→WD P G N ops (r.map (Yz ops)) R T' st1 sn)(hk:Nat.beq (QG P op) 3=false:=by exact rfl)(hN:Nat.ble (d+1) N=true:=by exact rfl):WD P G N ops (((i,0)::r).map (Yz ops)) R T st sn:=d1 ho hK h hk hN hn
theorem qA{r:List (Nat×Nat)}{op:Op}{v:AV}(ho:ops[i]? =some ⟨some d,op,ty,pos,af,none⟩)(hK:QX K T)(h:U0 P G K op st v st1)(hn: ∀T',QX ((d,v)::K) T'→WD P G N ops (r.map (Yz ops)) R T' st1 (st1::sn))(hk:Nat.beq (QG P op) 3=true:=by exact rfl)(hN:Nat.ble (d+1) N=true:=by exact rfl):WD P G N ops (((i,0)::r).map (Yz ops)) R T st sn:=dA ho hK h hk hN hn
end
end Go.Proofs.YtiknomepbklibaaGreatDoor
