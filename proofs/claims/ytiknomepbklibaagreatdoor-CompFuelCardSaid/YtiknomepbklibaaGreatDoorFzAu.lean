/-
  Straight runs of operations in one step.
-/
import Derived.Test.YtiknomepbklibaaGreatDoorFzTyc
namespace Go.Proofs.YtiknomepbklibaaGreatDoor
open Go Go.RowKit
set_option linter.unusedVariables false
set_option linter.unusedSectionVars false
variable {F:Tr AV→St→Prop} {f:FuncId} {g:Operand} {i id jj n t1 tt:Nat} {pol:Bool} {sn:List St} {st1:St} {w:List (Nat×Nat)}

class FO(P:Program)(t:TypeId)(f:Nat)(o:outParam Nat):Prop where
 h:QJ P t f=some o
class T1(P:Program)(t:TypeId):Prop where
 h:tk P t=.one
class TA(P:Program)(t:TypeId)(n:outParam Nat):Prop where
 h:tk P t=.agg n
class ZE(P:Program)(t:TypeId)(l:outParam (List AV)):Prop where
 h:zeroOf P t=some l
class SZ(P:Program)(t:TypeId)(n:outParam Nat):Prop where
 h:YH P t=some n
class UL(P:Program)(t:TypeId):Prop where
 h: ∃e,P.underlying t=some (.slice e)
class ST(P:Program)(t:TypeId)(tbl:outParam (List (Nat×Nat)))(z:outParam (List AV)):Prop where
 h:Pc P t tbl z
class SL(P:Program)(t:TypeId)(e:outParam TypeId)(z:outParam Nat):Prop where
 h:FQ P t e z
instance :FO Tryz.prog 44 0 0:=⟨Ow⟩
instance :FO Tryz.prog 44 1 1:=⟨Ov⟩
instance :FO Tryz.prog 44 2 2:=⟨Ou⟩
instance :FO Tryz.prog 44 3 3:=⟨Ot⟩
instance :FO Tryz.prog 44 4 4:=⟨Oq⟩
instance :FO Tryz.prog 44 5 5:=⟨Oo⟩
instance :FO Tryz.prog 25 0 0:=⟨Oz⟩
instance :FO Tryz.prog 25 1 1:=⟨Oy⟩
instance :FO Tryz.prog 25 2 2:=⟨Ox⟩
instance :FO Tryz.prog 65 0 0:=⟨Iv⟩
instance :FO Tryz.prog 65 1 1:=⟨Iu⟩
instance :FO Tryz.prog 71 0 0:=⟨Kt⟩
instance :FO Tryz.prog 71 1 1:=⟨Ks⟩
instance :FO Tryz.prog 77 0 0:=⟨EV⟩
instance :FO Tryz.prog 77 1 1:=⟨EU⟩
instance :FO Tryz.prog 86 0 0:=⟨On⟩
instance :FO Tryz.prog 86 1 1:=⟨Om⟩
instance :FO Tryz.prog 86 2 2:=⟨Ol⟩
instance :FO Tryz.prog 105 0 0:=⟨E4⟩
instance :FO Tryz.prog 105 1 1:=⟨E0⟩
instance :FO Tryz.prog 109 0 0:=⟨We⟩
instance :FO Tryz.prog 109 1 1:=⟨Wd⟩
instance :FO Tryz.prog 109 2 2:=⟨Wc⟩
instance :FO Tryz.prog 125 0 0:=⟨Nk⟩
instance :FO Tryz.prog 125 1 1:=⟨Nj⟩
instance :FO Tryz.prog 125 2 2:=⟨Ni⟩
instance :FO Tryz.prog 164 0 0:=⟨KC⟩
instance :FO Tryz.prog 164 1 1:=⟨KB⟩
instance :FO Tryz.prog 164 2 2:=⟨KA⟩
instance :FO Tryz.prog 175 0 0:=⟨Kw⟩
instance :FO Tryz.prog 175 1 1:=⟨Kv⟩
instance :FO Tryz.prog 175 2 2:=⟨Ku⟩
instance :FO Tryz.prog 181 0 0:=⟨HB⟩
instance :FO Tryz.prog 181 1 1:=⟨HA⟩
instance :FO Tryz.prog 181 2 2:=⟨H9⟩
instance :FO Tryz.prog 193 0 0:=⟨Og⟩
instance :FO Tryz.prog 195 0 0:=⟨Oj⟩
instance :FO Tryz.prog 195 1 1:=⟨Oi⟩
instance :FO Tryz.prog 195 2 2:=⟨Oh⟩
instance :FO Tryz.prog 211 0 0:=⟨Kz⟩
instance :FO Tryz.prog 211 1 1:=⟨Ky⟩
instance :FO Tryz.prog 211 2 2:=⟨Kx⟩
instance :T1 Tryz.prog 22:=⟨Us⟩
instance :TA Tryz.prog 25 3:=⟨Jb⟩
instance :T1 Tryz.prog 27:=⟨HZ⟩
instance :T1 Tryz.prog 29:=⟨UE⟩
instance :T1 Tryz.prog 36:=⟨Xb⟩
instance :TA Tryz.prog 77 2:=⟨Vq⟩
instance :T1 Tryz.prog 84:=⟨JJ⟩
instance :T1 Tryz.prog 122:=⟨UD⟩
instance :T1 Tryz.prog 123:=⟨Hd⟩
instance :T1 Tryz.prog 132:=⟨YR⟩
instance :TA Tryz.prog 168 3:=⟨Th⟩
instance :T1 Tryz.prog 172:=⟨Zu⟩
instance :T1 Tryz.prog 173:=⟨EA⟩
instance :TA Tryz.prog 181 3:=⟨Jq⟩
instance :ZE Tryz.prog 25 [.int .i64 0,.nils,.nils]:=⟨Y1⟩
instance :ZE Tryz.prog 29 [.nilp]:=⟨AY⟩
instance :ZE Tryz.prog 65 [.int .i64 0,.bool false]:=⟨E6⟩
instance :ZE Tryz.prog 71 [.nilp,.nilp]:=⟨AU⟩
instance :ZE Tryz.prog 77 [.int .i64 0,.int .i64 0]:=⟨Zy⟩
instance :ZE Tryz.prog 86 [.nils,.nils,.nilp]:=⟨IG⟩
instance :ZE Tryz.prog 105 [.int .i64 0,.bool false]:=⟨XP⟩
instance :ZE Tryz.prog 109 [.nilp,.bool false,.bool false]:=⟨ZK⟩
instance :ZE Tryz.prog 125 [.int .i64 0,.nils,.nilm]:=⟨FZ⟩
instance :ZE Tryz.prog 132 [.nili]:=⟨E7⟩
instance :ZE Tryz.prog 164 [.int .i64 0,.bool false,.int .i64 0]:=⟨VR⟩
instance :ZE Tryz.prog 168 [.int .i64 0,.int .i64 0,.int .i64 0]:=⟨OB⟩
instance :ZE Tryz.prog 175 [.nilm,.nils,.nilp]:=⟨AW⟩
instance :ZE Tryz.prog 181 [.nilf,.int .i64 0,.int .i64 0]:=⟨En⟩
instance :ZE Tryz.prog 193 [.int .i64 0]:=⟨IE⟩
instance :ZE Tryz.prog 195 [.int .i64 0,.int .i64 0,.int .i64 0]:=⟨IF⟩
instance :ZE Tryz.prog 211 [.nilp,.nilf,.nilm]:=⟨AX⟩
instance :T1 Tryz.prog 3:=⟨Qr⟩
instance :T1 Tryz.prog 4:=⟨Jy⟩
instance :T1 Tryz.prog 9:=⟨HY⟩
instance :T1 Tryz.prog 42:=⟨NS⟩
instance :TA Tryz.prog 44 6:=⟨Jj⟩
instance :TA Tryz.prog 177 2:=⟨OF⟩
instance :T1 Tryz.prog 54:=⟨QZ⟩
instance :ZE Tryz.prog 3 [.int .i64 0]:=⟨Vn⟩
instance :ZE Tryz.prog 4 [.bool false]:=⟨XU⟩
instance :ZE Tryz.prog 9 [.str []]:=⟨OA⟩
instance :ZE Tryz.prog 44 [.str [],.int .i64 0,.int .i64 0,.int .i64 0,.int .i64 0,.nils]:=⟨Cc⟩
instance :ZE Tryz.prog 177 [.int .i64 0,.int .i64 0]:=⟨Z9⟩
instance :ZE Tryz.prog 54 [.nils]:=⟨Uv⟩
instance :SZ Tryz.prog 22 1:=⟨UF⟩
instance :SZ Tryz.prog 25 3:=⟨QF⟩
instance :SZ Tryz.prog 122 1:=⟨Fb⟩
instance :SZ Tryz.prog 164 3:=⟨Fa⟩
instance :SZ Tryz.prog 168 3:=⟨Ti⟩
instance :SZ Tryz.prog 173 1:=⟨IJ⟩
instance :SZ Tryz.prog 181 3:=⟨Kn⟩
instance :SZ Tryz.prog 195 3:=⟨Cm⟩
instance :SZ Tryz.prog 3 1:=⟨Lk⟩
instance :SZ Tryz.prog 4 1:=⟨A5⟩
instance :SZ Tryz.prog 44 6:=⟨ZB⟩
instance :SZ Tryz.prog 177 2:=⟨Tj⟩
instance :SZ Tryz.prog 54 1:=⟨Cn⟩
instance :UL Tryz.prog 142:=⟨_,IH⟩
instance :SL Tryz.prog 142 9 1:=⟨Cw⟩
instance :UL Tryz.prog 42:=⟨_,Uk⟩
instance :UL Tryz.prog 54:=⟨_,Jp⟩
instance :SL Tryz.prog 54 3 1:=⟨QM⟩
instance :UL Tryz.prog 22:=⟨_,Ur⟩
instance :ST Tryz.prog 25 [(0,1),(1,1),(2,1)] [.int .i64 0,.nils,.nils]:=⟨VG⟩
instance :ST Tryz.prog 65 [(0,1),(1,1)] [.int .i64 0,.bool false]:=⟨Lp⟩
instance :ST Tryz.prog 71 [(0,1),(1,1)] [.nilp,.nilp]:=⟨NT⟩
instance :ST Tryz.prog 77 [(0,1),(1,1)] [.int .i64 0,.int .i64 0]:=⟨Fw⟩
instance :UL Tryz.prog 78:=⟨_,Ug⟩
instance :ST Tryz.prog 86 [(0,1),(1,1),(2,1)] [.nils,.nils,.nilp]:=⟨IL⟩
instance :ST Tryz.prog 105 [(0,1),(1,1)] [.int .i64 0,.bool false]:=⟨AO⟩
instance :ST Tryz.prog 109 [(0,1),(1,1),(2,1)] [.nilp,.bool false,.bool false]:=⟨WN⟩
instance :UL Tryz.prog 111:=⟨_,Ep⟩
instance :UL Tryz.prog 122:=⟨_,Xr⟩
instance :ST Tryz.prog 125 [(0,1),(1,1),(2,1)] [.int .i64 0,.nils,.nilm]:=⟨GI⟩
instance :ST Tryz.prog 164 [(0,1),(1,1),(2,1)] [.int .i64 0,.bool false,.int .i64 0]:=⟨NW⟩
instance :UL Tryz.prog 173:=⟨_,X1⟩
instance :ST Tryz.prog 175 [(0,1),(1,1),(2,1)] [.nilm,.nils,.nilp]:=⟨NU⟩
instance :ST Tryz.prog 181 [(0,1),(1,1),(2,1)] [.nilf,.int .i64 0,.int .i64 0]:=⟨Ko⟩
instance :ST Tryz.prog 193 [(0,1)] [.int .i64 0]:=⟨Cs⟩
instance :ST Tryz.prog 195 [(0,1),(1,1),(2,1)] [.int .i64 0,.int .i64 0,.int .i64 0]:=⟨Ct⟩
instance :ST Tryz.prog 211 [(0,1),(1,1),(2,1)] [.nilp,.nilf,.nilm]:=⟨NV⟩
instance :SL Tryz.prog 22 4 1:=⟨J3⟩
instance :SL Tryz.prog 78 77 2:=⟨X3⟩
instance :SL Tryz.prog 111 29 1:=⟨Y7⟩
instance :SL Tryz.prog 122 132 1:=⟨VV⟩
instance :SL Tryz.prog 173 177 2:=⟨ED⟩
abbrev iZ(z:Int):AV:=.int .i64 z
abbrev iN(n:Nat):AV:=.int .i64 n
def SG(j:Nat)(q:St→Prop)(h0:Hp)(n0:Nat)(X:List Nat)(K:List (Nat×AV))(M:List (Nat×Nat×List AV))(F:Tr AV→St→Prop):Prop:= ∀T st,QY K T→q st→Mem h0 n0 X st M→F T st
def To(g g':Prop):Prop:=g'→g
structure PO(P:Program)(G:Env)(h0:Hp)(n0:Nat)(X:List Nat)(K:List (Nat×AV))(M:List (Nat×Nat×List AV))(op:Op)(v:AV):Prop where
 h: ∀st,Mem h0 n0 X st M→U3 P G K op st v st
section
variable {j:Nat} {q:St→Prop} {P:Program} {G:Env} {N:Nat} {h0:Hp} {n0:Nat} {X:List Nat} {K:List (Nat×AV)} {M:List (Nat×Nat×List AV)} {g':Prop} {ops rest:List Oper} {R:Tr AV→St→Prop} {Q:Ex→Tr AV→St→Prop} {d:Nat} {ty:TypeId} {pos:String} {af:Array Edge} {st:St} {op:Op} {u v:AV} {x y:Operand} {t yt:TypeId} {k:IntKind} {a b:Int} {r l:List AV} {c m off:Nat} {A B:Bool} {tys:Array TypeId} {s z:List Nat}
theorem GZ(h:QX G K x=some v):PO P G h0 n0 X K M (.move x) (v):=⟨fun _ hM=>Qg h⟩
theorem Hq(h:QX G K x=some v):PO P G h0 n0 X K M (.assign x) (v):=⟨fun _ hM=>U5 h⟩
theorem Uu [ht:T1 P t](i:Nat)(h:QX G K x=some (.ptr c m off))(h1:M[i]? =some (c,m,l))(h2:nth l off=some v):PO P G h0 n0 X K M (.load t x) v:=⟨fun _ hM=>Qd h (hM.load h1 (Qf ht.h h2))⟩
theorem JI [ht:TA P t n](i:Nat)(h:QX G K x=some (.ptr c m off))(h1:M[i]? =some (c,m,l))(h2:Es n (Eu off l) (fun r=>some (AV.agg r))=some (.agg r)):PO P G h0 n0 X K M (.load t x) (.agg r):=⟨fun _ hM=>Qd h (hM.load h1 (QL ht.h h2))⟩
theorem Sh{f o:Nat} [ho:FO P t f o](h:QX G K x=some (.ptr c m off)):PO P G h0 n0 X K M (.fieldAddr t x f) (.ptr c m (off+o)):=⟨fun _ hM=>Yc ho.h h⟩
theorem GY(h:QX G K x=some (.ptr c m off)):PO P G h0 n0 X K M (.nilCheck x) (.ptr c m off):=⟨fun _ hM=>vf h rfl⟩
theorem Si(h:QX G K x=some (.tup l))(h':nth l i=some v):PO P G h0 n0 X K M (.extract x i) (v):=⟨fun _ hM=>PI h h'⟩
theorem GX{w1 w2:Operand}(h:QX G K x=some (.bool A))(h1:QX G K w1=some u)(h2:QX G K w2=some v):PO P G h0 n0 X K M (.pick x w1 w2) (Qo A u v):=⟨fun _ hM=>zf h h1 h2⟩
theorem RZ(h:QX G K x=some (.bool A)):PO P G h0 n0 X K M (.unOp .not t x) (.bool (!A)):=⟨fun _ hM=>Ih h⟩
theorem Sc(h:QX G K x=some (.int k a))(h':QX G K y=some (.int k b)):PO P G h0 n0 X K M (.binOp .lss t x y yt) (.bool (decide (a<b))):=⟨fun _ hM=>qY h h'⟩
theorem Se(h:QX G K x=some (.int k a))(h':QX G K y=some (.int k b)):PO P G h0 n0 X K M (.binOp .gtr t x y yt) (.bool (decide (b<a))):=⟨fun _ hM=>vh h h'⟩
theorem Sd(h:QX G K x=some (.int k a))(h':QX G K y=some (.int k b)):PO P G h0 n0 X K M (.binOp .leq t x y yt) (.bool (decide (a≤b))):=⟨fun _ hM=>vg h h'⟩
theorem Sg(h:QX G K x=some (.int k a))(h':QX G K y=some (.int k b)):PO P G h0 n0 X K M (.binOp .geq t x y yt) (.bool (decide (b≤a))):=⟨fun _ hM=>vi h h'⟩
theorem Sk(h:QX G K x=some (.int k a))(h':QX G K y=some (.int k b)):PO P G h0 n0 X K M (.binOp .eql t x y yt) (.bool (decide (a=b))):=⟨fun _ hM=>ja h h'⟩
theorem Sb(h:QX G K x=some (.int k a))(h':QX G K y=some (.int k b)):PO P G h0 n0 X K M (.binOp .neq t x y yt) (.bool (!decide (a=b))):=⟨fun _ hM=>PG h h'⟩
theorem Sj(h:QX G K x=some (.str s))(h':QX G K y=some (.str z)):PO P G h0 n0 X K M (.binOp .eql t x y yt) (.bool (decide (s=z))):=⟨fun _ hM=>Jk h h'⟩
theorem Sa(h:QX G K x=some (.str s))(h':QX G K y=some (.str z)):PO P G h0 n0 X K M (.binOp .neq t x y yt) (.bool (!decide (s=z))):=⟨fun _ hM=>Bb h h'⟩
theorem Sl(h:QX G K x=some (.int .i64 a))(h':QX G K y=some (.int .i64 b))(h1: -9223372036854775808≤a+b)(h2:a+b≤9223372036854775807):PO P G h0 n0 X K M (.binOp .add t x y yt) (.int .i64 (a+b)):=⟨fun _ _=>vj h h' h1 h2⟩
theorem RY(h:QX G K x=some (.int .i64 a))(h':QX G K y=some (.int .i64 b))(h1: -9223372036854775808≤a-b)(h2:a-b≤9223372036854775807):PO P G h0 n0 X K M (.binOp .sub t x y yt) (.int .i64 (a-b)):=⟨fun _ _=>PF h h' h1 h2⟩
theorem Ba [hu:UL P t](h:QX G K x=some u)(h':Y8 u=some n):PO P G h0 n0 X K M (.call {callee:=.builtin .len,args:= #[x],argTypes:= #[t]}) (.int .i64 (n:Int)):=⟨fun _ _=>by obtain⟨e,hu⟩:=hu.h;exact Q8 hu rfl h h'⟩
theorem KO{parts:Array (Nat×Operand)}{ps:List (Nat×AV)}{tbl:List (Nat×Nat)}{zz:List AV} [hs:ST P t tbl zz](h:Zl (QX G K) parts=some ps)(h':X9 (nth tbl) ps zz=some r):PO P G h0 n0 X K M (.build t parts) (.agg r):=⟨fun _ hM=>W0 hs.h h h'⟩
theorem qf{k:Tr AV→St→Prop}(h:To (SG j q h0 n0 X K M (k)) g'):To (SG j q h0 n0 X K M (Lj k Q .nor)) g':=h
theorem xw(h:To (SG j q h0 n0 X K M (Q .nor)) g'):To (SG j q h0 n0 X K M (BL id Q .nor)) g':=h
theorem xq{a b:Code}(h:To (SG j q h0 n0 X K M (W P G N (a) (Lj (W P G N b Q) Q))) g'):To (SG j q h0 n0 X K M (W P G N (.seq a b) Q)) g':=fun h' T st hK hq hM=>QC (h h' T st hK hq hM)
theorem RN{c:Code}(h:To (SG j q h0 n0 X K M (W P G N (c) (BL id Q))) g'):To (SG j q h0 n0 X K M (W P G N (.block id c) Q)) g':=fun h' T st hK hq hM=>G9 (h h' T st hK hq hM)
theorem qg(h:To (SG j q h0 n0 X K M (Q .nor)) g'):To (SG j q h0 n0 X K M (W P G N (.skip) Q)) g':=fun h' T st hK hq hM=>Xh (h h' T st hK hq hM)
theorem RM{l:Nat}(h:To (SG j q h0 n0 X K M (Q .nor)) g'):To (SG j q h0 n0 X K M (W P G N (.label l) Q)) g':=fun h' T st hK hq hM=>y8 (h h' T st hK hq hM)
theorem Cl{l:List Oper}(h:To (SG j q h0 n0 X K M (WR P G N l l (Q .nor))) g'):To (SG j q h0 n0 X K M (W P G N (.region id l.toArray false) Q)) g':=fun h' T st hK hq hM=>Qv (h h' T st hK hq hM)
theorem xr(h:To (SG j q h0 n0 X K M (R)) g'):To (SG j q h0 n0 X K M (WR P G N ops [] R)) g':=fun h' T st hK hq hM=>Un (h h' T st hK hq hM)
theorem wL{a b:Code}(hg:QX G K g=some (.bool true))(h:To (SG j q h0 n0 X K M (W P G N (a) Q)) g'):To (SG (j+1) q h0 n0 X K M (W P G N (.cond g a b) Q)) g':=fun h' T st hK hq hM=>Qq (hK.QI hg) (fun _=>h h' T st hK hq hM) (fun e=>by cases e)
theorem wM{a b:Code}(hg:QX G K g=some (.bool false))(h:To (SG j q h0 n0 X K M (W P G N (b) Q)) g'):To (SG (j+1) q h0 n0 X K M (W P G N (.cond g a b) Q)) g':=fun h' T st hK hq hM=>Qq (hK.QI hg) (fun e=>by cases e) (fun _=>h h' T st hK hq hM)
theorem ag(hp:PO P G h0 n0 X K M op v)(hN:Nat.ble (d+1) N=true)(h:To (SG j q h0 n0 X ((d,v)::K) M (WR P G N ops rest R)) g'):To (SG (j+1) q h0 n0 X K M (WR P G N ops (⟨some d,op,ty,pos,af,none⟩::rest) R)) g':=fun h' T st hK hq hM=>o1 hK (hp.h st hM) hN fun T' hK'=>h h' T' st hK' hq hM
theorem ah(hp:PO P G h0 n0 X K M op v)(hh:UU ops jj=some tt∧K.lookup tt=some (.bool pol)∧Nat.ble (d+1) N=true)(h:To (SG j q h0 n0 X ((d,v)::K) M (WR P G N ops rest R)) g'):To (SG (j+1) q h0 n0 X K M (WR P G N ops (⟨some d,op,ty,pos,af,some (jj,pol)⟩::rest) R)) g':=fun h' T st hK hq hM=>og hK hh.1 hh.2.1 (hp.h st hM) hh.2.2 fun T' hK'=>h h' T' st hK' hq hM
theorem wK(hh:UU ops jj=some tt∧K.lookup tt=some (.bool A)∧(A==pol)=false∧Nat.ble (d+1) N=true)(h:To (SG j q h0 n0 X ((d,.tup [])::K) M (WR P G N ops rest R)) g'):To (SG (j+1) q h0 n0 X K M (WR P G N ops (⟨some d,op,ty,pos,af,some (jj,pol)⟩::rest) R)) g':=fun h' T st hK hq hM=>gn hK hh.1 hh.2.1 hh.2.2.1 hh.2.2.2 fun T' hK'=>h h' T' st hK' hq hM
theorem xu(hh:UU ops jj=some tt∧K.lookup tt=some (.tup [])∧Nat.ble (d+1) N=true)(h:To (SG j q h0 n0 X ((d,.tup [])::K) M (WR P G N ops rest R)) g'):To (SG (j+1) q h0 n0 X K M (WR P G N ops (⟨some d,op,ty,pos,af,some (jj,pol)⟩::rest) R)) g':=fun h' T st hK hq hM=>aC hK hh.1 hh.2.1 hh.2.2 fun T' hK'=>h h' T' st hK' hq hM
theorem WL [hz:SZ P t n](i:Nat){r':List AV}(hh:QX G K x=some (.ptr c m off)∧QX G K y=some v∧M[i]? =some (c,m,r)∧(Jl v).length=n∧Vg Qu (Jl v)=true∧Zj (Jl v) off r=some r')(h:To (SG j (fun _=>True) h0 n0 X K (M.set i (c,m,r')) (WR P G N ops rest R)) g'):To (SG (j+1) (fun _=>True) h0 n0 X K M (WR P G N ops (⟨none,.store t x y,ty,pos,af,none⟩::rest) R)) g':=fun h' T st hK _ hM=>QW (k:=i) hK hM hh.1 hh.2.1 hh.2.2.1 hz.h hh.2.2.2.1 hh.2.2.2.2.1 hh.2.2.2.2.2 fun st' hM'=>h h' T st' hK trivial hM'
theorem yL{g:Nat→Prop} [hz:ZE P t l](hN:Nat.ble (d+1) N=true)(h: ∀c,To (SG j (fun _=>True) h0 n0 X ((d,.ptr c 0 0)::K) ((c,0,l)::M) (WR P G N ops rest R)) (g c)):To (SG (j+1) (fun _=>True) h0 n0 X K M (WR P G N ops (⟨some d,.alloc t,ty,pos,af,none⟩::rest) R)) (∀c,g c):=fun h' T st hK _ hM=>Ld hK hM hz.h (Nat.le_of_ble_eq_true hN) fun c T' st' hK' hM'=>h c (h' c) T' st' hK' trivial hM'
theorem wN{g:Nat→Prop}(hh:QX G K x=some v∧Nat.ble (d+1) N=true)(hc:True→Vg Qu (Jl v)=true)(h: ∀c,To (SG j (fun _=>True) h0 n0 X ((d,.ptr c 0 0)::K) ((c,0,Jl v)::M) (WR P G N ops rest R)) (g c)):To (SG (j+1) (fun _=>True) h0 n0 X K M (WR P G N ops (⟨some d,.box t x,ty,pos,af,none⟩::rest) R)) (∀c,g c):=fun h' T st hK _ hM=>Jt hK hM hh.1 (hc trivial) (Nat.le_of_ble_eq_true hh.2) fun c T' st' hK' hM'=>h c (h' c) T' st' hK' trivial hM'
theorem eN{g:Nat→Prop}{e:TypeId}{len w:Nat}{parts:Array (Nat×Operand)}{ps:List (Nat×AV)} [hs:SL P t e w] [hz:ZE P e l](hh:Zl (QX G K) parts=some ps∧X9 (fun i=>some (i *w,w)) ps (XZ len l)=some r∧Vg Qu r=true∧Nat.ble (len *w) 16777216=true∧Nat.ble (d+1) N=true)(h: ∀c,To (SG j (fun _=>True) h0 n0 X ((d,.sl c 0 0 len w)::K) ((c,0,r)::M) (WR P G N ops rest R)) (g c)):To (SG (j+1) (fun _=>True) h0 n0 X K M (WR P G N ops (⟨some d,.buildSlice t len parts,ty,pos,af,none⟩::rest) R)) (∀c,g c):=fun h' T st hK _ hM=>Xy hK hM hs.h hz.h hh.1 hh.2.1 hh.2.2.1 hh.2.2.2.1 hh.2.2.2.2 fun c T' st' hK' hM'=>h c (h' c) T' st' hK' trivial hM'
theorem xV{g:Prop}:To g g:=id
theorem yJ:To (SG j (fun s=>s=st) h0 n0 X K M (F)) (∀T,QY K T→F T st):=fun h T _ hK hq hM=>hq▸h T hK
theorem eI{k:Tr AV→St→Prop}(h:To (SG j q h0 n0 X K M (W P G N (.ret) Q)) g'):To (SG j q h0 n0 X K M (W P G N (.ret) (Lj k Q))) g':=fun h' T st hK hq hM=>Jx (by have h2:=h h' T st hK hq hM;obtain⟨L,n,x,T',st',h3,h4⟩:=h2;injection h3 with h3;injection h3 with h5 h6;injection h6 with h6 h7;subst h5 h6 h7;exact h4)
theorem eJ(h:To (SG j q h0 n0 X K M (W P G N (.ret) Q)) g'):To (SG j q h0 n0 X K M (W P G N (.ret) (BL id Q))) g':=fun h' T st hK hq hM=>Jx (by have h2:=h h' T st hK hq hM;obtain⟨L,n,x,T',st',h3,h4⟩:=h2;injection h3 with h3;injection h3 with h5 h6;injection h6 with h6 h7;subst h5 h6 h7;exact h4)
theorem eL{Z:AV→St→Prop}{rs:List ResultVar}(hr:rs=[.tmp t1])(hh:K.lookup t1=some v):To (SG j (fun s=>s=st) h0 n0 X K M (W P G N (.ret) (fun x T s=>(x=.nor∨x=.ret)∧ ∃v,J7 P rs T s=some v∧Z v s))) (Z v st):=fun h' T s hK hq hM=>Jx ⟨.inr rfl,_,by rw[hr];exact KL (Q9 hK hh),by subst hq;exact h'⟩
theorem eK{t2:Nat}{Z:AV→St→Prop}{rs:List ResultVar}(hr:rs=[.tmp t1,.tmp t2])(hh:K.lookup t1=some u∧K.lookup t2=some v):To (SG j (fun s=>s=st) h0 n0 X K M (W P G N (.ret) (fun x T s=>(x=.nor∨x=.ret)∧ ∃v,J7 P rs T s=some v∧Z v s))) (Z (.tup [u,v]) st):=fun h' T s hK hq hM=>Jx ⟨.inr rfl,_,by rw[hr];exact JZ (Q9 hK hh.1) (Q9 hK hh.2),by subst hq;exact h'⟩
theorem xU{Z:AV→St→Prop}{rs:List ResultVar}(i:Nat)(ht:TA P t n)(hr:rs=[.cell t1 t])(hh:K.lookup t1=some (.ptr c m off)∧M[i]? =some (c,m,l)∧Es n (Eu off l) (fun r=>some (AV.agg r))=some (.agg r)):To (SG j (fun s=>s=st) h0 n0 X K M (W P G N (.ret) (fun x T s=>(x=.nor∨x=.ret)∧ ∃v,J7 P rs T s=some v∧Z v s))) (Z (.agg r) st):=fun h' T s hK hq hM=>Jx ⟨.inr rfl,_,by rw[hr];exact KL (JD hK hh.1 (hM.load hh.2.1 (QL ht.h hh.2.2))),by subst hq;exact h'⟩
theorem au(j:Nat){T:Tr AV}{st:St}(hK:QY K T)(hM:Mem h0 n0 X st M)(hn:g')(h:To (SG j (fun _=>True) h0 n0 X K M (F)) g':=by
 repeat' first
  |with_reducible refine' qf ?_
  |with_reducible refine' xw ?_
  |with_reducible refine' xq ?_
  |with_reducible refine' xr ?_
  |with_reducible refine' RN ?_
  |with_reducible refine' qg ?_
  |with_reducible refine' RM ?_
  |with_reducible refine' Cl ?_
  |((first|with_reducible refine' ag ?_ ?_ ?_|with_reducible refine' ah ?_ ?_ ?_);(any_goals(first|(apply GZ<;>exact rfl)|(apply Hq<;>exact rfl)|(apply Uu 0<;>exact rfl)|(apply Uu 1<;>exact rfl)|(apply Uu 2<;>exact rfl)|(apply Uu 3<;>exact rfl)|(apply Uu 4<;>exact rfl)|(apply Uu 5<;>exact rfl)|(apply Uu 6<;>exact rfl)|(apply JI 0<;>exact rfl)|(apply JI 1<;>exact rfl)|(apply JI 2<;>exact rfl)|(apply JI 3<;>exact rfl)|(apply JI 4<;>exact rfl)|(apply JI 5<;>exact rfl)|(apply JI 6<;>exact rfl)|(apply Sh<;>exact rfl)|(apply GY<;>exact rfl)|(apply Si<;>exact rfl)|(apply GX<;>exact rfl)|(apply RZ<;>exact rfl)|(apply Sc<;>exact rfl)|(apply Se<;>exact rfl)|(apply Sd<;>exact rfl)|(apply Sg<;>exact rfl)|(apply Sk<;>exact rfl)|(apply Sb<;>exact rfl)|(apply Sj<;>exact rfl)|(apply Sa<;>exact rfl)|(apply Sl;exact rfl;exact rfl;omega;omega)|(apply RY;exact rfl;exact rfl;omega;omega)|(apply Ba<;>exact rfl)|(apply KO<;>exact rfl)));any_goals first|exact rfl|exact⟨rfl,rfl,rfl⟩)
  |((with_reducible refine' wK ?_ ?_);any_goals exact⟨rfl,rfl,rfl,rfl⟩)
  |((with_reducible refine' xu ?_ ?_);any_goals exact⟨rfl,rfl,rfl⟩)
  |((with_reducible refine' wL ?_ ?_);any_goals exact rfl)
  |((with_reducible refine' wM ?_ ?_);any_goals exact rfl)
  |((with_reducible refine' WL 0 ?_ ?_);any_goals exact⟨rfl,rfl,rfl,rfl,rfl,rfl⟩)
  |((with_reducible refine' WL 1 ?_ ?_);any_goals exact⟨rfl,rfl,rfl,rfl,rfl,rfl⟩)
  |((with_reducible refine' WL 2 ?_ ?_);any_goals exact⟨rfl,rfl,rfl,rfl,rfl,rfl⟩)
  |((with_reducible refine' WL 3 ?_ ?_);any_goals exact⟨rfl,rfl,rfl,rfl,rfl,rfl⟩)
  |((with_reducible refine' WL 4 ?_ ?_);any_goals exact⟨rfl,rfl,rfl,rfl,rfl,rfl⟩)
  |((with_reducible refine' WL 5 ?_ ?_);any_goals exact⟨rfl,rfl,rfl,rfl,rfl,rfl⟩)
  |((with_reducible refine' WL 6 ?_ ?_);any_goals exact⟨rfl,rfl,rfl,rfl,rfl,rfl⟩)
  |((with_reducible refine' yL ?_ fun _=>?_);any_goals exact rfl)
  |((with_reducible refine' eN ?_ fun _=>?_);any_goals exact⟨rfl,rfl,rfl,rfl,rfl⟩)
  |((with_reducible refine' wN ?_ ?_ fun _=>?_);(any_goals exact⟨rfl,rfl⟩);any_goals(intro(_:True);(repeat first|exact rfl|assumption|refine Qb ?_ ?_);done))
  |with_reducible exact xV):F T st:=h hn T st hK trivial hM
theorem Qc(j:Nat){T:Tr AV}{st:St}(hK:QY K T)(hM:Mem h0 n0 X st M)(hn:g')(h:To (SG j (fun s=>s=st) h0 n0 X K M (F)) g':=by
 repeat' first
  |with_reducible refine' qf ?_
  |with_reducible refine' xw ?_
  |with_reducible refine' xq ?_
  |with_reducible refine' xr ?_
  |with_reducible refine' RN ?_
  |with_reducible refine' qg ?_
  |with_reducible refine' RM ?_
  |with_reducible refine' Cl ?_
  |((first|with_reducible refine' ag ?_ ?_ ?_|with_reducible refine' ah ?_ ?_ ?_);(any_goals(first|(apply GZ<;>exact rfl)|(apply Hq<;>exact rfl)|(apply Uu 0<;>exact rfl)|(apply Uu 1<;>exact rfl)|(apply Uu 2<;>exact rfl)|(apply Uu 3<;>exact rfl)|(apply Uu 4<;>exact rfl)|(apply Uu 5<;>exact rfl)|(apply Uu 6<;>exact rfl)|(apply JI 0<;>exact rfl)|(apply JI 1<;>exact rfl)|(apply JI 2<;>exact rfl)|(apply JI 3<;>exact rfl)|(apply JI 4<;>exact rfl)|(apply JI 5<;>exact rfl)|(apply JI 6<;>exact rfl)|(apply Sh<;>exact rfl)|(apply GY<;>exact rfl)|(apply Si<;>exact rfl)|(apply GX<;>exact rfl)|(apply RZ<;>exact rfl)|(apply Sc<;>exact rfl)|(apply Se<;>exact rfl)|(apply Sd<;>exact rfl)|(apply Sg<;>exact rfl)|(apply Sk<;>exact rfl)|(apply Sb<;>exact rfl)|(apply Sj<;>exact rfl)|(apply Sa<;>exact rfl)|(apply Sl;exact rfl;exact rfl;omega;omega)|(apply RY;exact rfl;exact rfl;omega;omega)|(apply Ba<;>exact rfl)|(apply KO<;>exact rfl)));any_goals first|exact rfl|exact⟨rfl,rfl,rfl⟩)
  |((with_reducible refine' wK ?_ ?_);any_goals exact⟨rfl,rfl,rfl,rfl⟩)
  |((with_reducible refine' xu ?_ ?_);any_goals exact⟨rfl,rfl,rfl⟩)
  |((with_reducible refine' wL ?_ ?_);any_goals exact rfl)
  |((with_reducible refine' wM ?_ ?_);any_goals exact rfl)
  |with_reducible refine' eI ?_
  |with_reducible refine' eJ ?_
  |((with_reducible refine' eL ?_ ?_);any_goals exact rfl)
  |((with_reducible refine' eK ?_ ?_);(any_goals exact rfl);any_goals exact⟨rfl,rfl⟩)
  |((with_reducible refine' xU 0 ?_ ?_ ?_);(any_goals exact rfl);(any_goals infer_instance);any_goals exact⟨rfl,rfl,rfl⟩)
  |((with_reducible refine' xU 1 ?_ ?_ ?_);(any_goals exact rfl);(any_goals infer_instance);any_goals exact⟨rfl,rfl,rfl⟩)
  |((with_reducible refine' xU 2 ?_ ?_ ?_);(any_goals exact rfl);(any_goals infer_instance);any_goals exact⟨rfl,rfl,rfl⟩)
  |with_reducible exact yJ):F T st:=h hn T st hK rfl hM
def DG(P:Program)(G:Env)(N:Nat)(h0:Hp)(n0:Nat)(X:List Nat)(M:List (Nat×Nat×List AV))(st:St)(sn:List St)(ops:List Oper)(R:Tr AV→St→Prop)(j:Nat)(w:List (Nat×Nat))(K:List (Nat×AV)):Prop:=Mem h0 n0 X st M→ ∀T,QY K T→WD P G N ops (w.map (Yl ops)) R T st sn
theorem ax(ho:ops[i]? =some (⟨some d,op,ty,pos,af,none⟩))(hp:PO P G h0 n0 X K M op v)(hh:Nat.beq (QH P op) 3=false∧Nat.ble (d+1) N=true)(h:To (DG P G N h0 n0 X M st sn ops R j w ((d,v)::K)) g'):To (DG P G N h0 n0 X M st sn ops R (j+1) ((i,0)::w) K) g':=fun h' hM T hK=>d1 ho hK (hp.h st hM) hh.1 hh.2 fun T' hK'=>h h' hM T' hK'
theorem eM(ho:ops[i]? =some (⟨some d,op,ty,pos,af,some (jj,pol)⟩))(hp:PO P G h0 n0 X K M op v)(hh:UU ops jj=some tt∧K.lookup tt=some (.bool pol)∧Nat.beq (QH P op) 3=false∧Nat.ble (d+1) N=true)(h:To (DG P G N h0 n0 X M st sn ops R j w ((d,v)::K)) g'):To (DG P G N h0 n0 X M st sn ops R (j+1) ((i,0)::w) K) g':=fun h' hM T hK=>dg ho hK hh.1 hh.2.1 (hp.h st hM) hh.2.2.1 hh.2.2.2 fun T' hK'=>h h' hM T' hK'
theorem yK:To (DG P G N h0 n0 X M st sn ops R i w K) (∀T,QY K T→WD P G N ops (w.map (Yl ops)) R T st sn):=fun h _=>h
theorem Jf(j:Nat){T:Tr AV}(hK:QY K T)(hM:Mem h0 n0 X st M)(hn:g')(h:To (DG P G N h0 n0 X M st sn ops R j w K) g':=by
 repeat' first
  |((first|with_reducible refine' ax ?_ ?_ ?_ ?_);(any_goals exact rfl);(any_goals(first|(apply GZ<;>exact rfl)|(apply Hq<;>exact rfl)|(apply Uu 0<;>exact rfl)|(apply Uu 1<;>exact rfl)|(apply Uu 2<;>exact rfl)|(apply Uu 3<;>exact rfl)|(apply Uu 4<;>exact rfl)|(apply Uu 5<;>exact rfl)|(apply Uu 6<;>exact rfl)|(apply JI 0<;>exact rfl)|(apply JI 1<;>exact rfl)|(apply JI 2<;>exact rfl)|(apply JI 3<;>exact rfl)|(apply JI 4<;>exact rfl)|(apply JI 5<;>exact rfl)|(apply JI 6<;>exact rfl)|(apply Sh<;>exact rfl)|(apply GY<;>exact rfl)|(apply Si<;>exact rfl)|(apply GX<;>exact rfl)|(apply RZ<;>exact rfl)|(apply Sc<;>exact rfl)|(apply Se<;>exact rfl)|(apply Sd<;>exact rfl)|(apply Sg<;>exact rfl)|(apply Sk<;>exact rfl)|(apply Sb<;>exact rfl)|(apply Sj<;>exact rfl)|(apply Sa<;>exact rfl)|(apply Sl;exact rfl;exact rfl;omega;omega)|(apply RY;exact rfl;exact rfl;omega;omega)|(apply Ba<;>exact rfl)|(apply KO<;>exact rfl)));any_goals exact⟨rfl,rfl⟩)
  |((with_reducible refine' eM ?_ ?_ ?_ ?_);(any_goals exact rfl);(any_goals(first|(apply GZ<;>exact rfl)|(apply Hq<;>exact rfl)|(apply Uu 0<;>exact rfl)|(apply Uu 1<;>exact rfl)|(apply Uu 2<;>exact rfl)|(apply Uu 3<;>exact rfl)|(apply Uu 4<;>exact rfl)|(apply Uu 5<;>exact rfl)|(apply Uu 6<;>exact rfl)|(apply JI 0<;>exact rfl)|(apply JI 1<;>exact rfl)|(apply JI 2<;>exact rfl)|(apply JI 3<;>exact rfl)|(apply JI 4<;>exact rfl)|(apply JI 5<;>exact rfl)|(apply JI 6<;>exact rfl)|(apply Sh<;>exact rfl)|(apply GY<;>exact rfl)|(apply Si<;>exact rfl)|(apply GX<;>exact rfl)|(apply RZ<;>exact rfl)|(apply Sc<;>exact rfl)|(apply Se<;>exact rfl)|(apply Sd<;>exact rfl)|(apply Sg<;>exact rfl)|(apply Sk<;>exact rfl)|(apply Sb<;>exact rfl)|(apply Sj<;>exact rfl)|(apply Sa<;>exact rfl)|(apply Sl;exact rfl;exact rfl;omega;omega)|(apply RY;exact rfl;exact rfl;omega;omega)|(apply Ba<;>exact rfl)|(apply KO<;>exact rfl)));any_goals exact⟨rfl,rfl,rfl,rfl⟩)
  |with_reducible exact yK):WD P G N ops (w.map (Yl ops)) R T st sn:=h hn hM T hK
end
section
variable {P:Program} {G:Env} {N:Nat} {h0:Hp} {n0:Nat} {X:List Nat} {K:List (Nat×AV)} {M:List (Nat×Nat×List AV)} {ops rest:List Oper} {R:Tr AV→St→Prop} {Q:Ex→Tr AV→St→Prop} {d:Nat} {ty:TypeId} {pos:String} {af:Array Edge} {T:Tr AV} {st:St}
theorem JP{a b:Code}{p:Prop} [Decidable p](hK:QY K T)(hg:QX G K g=some (.bool (decide p)))(ha:p→W P G N a Q T st)(hb: ¬p→W P G N b Q T st):W P G N (.cond g a b) Q T st:=Qq (hK.QI hg) (fun h=>ha (of_decide_eq_true h)) fun h=>hb (of_decide_eq_false h)
theorem xP{a b:Code}{p:Prop} [Decidable p](hK:QY K T)(hg:QX G K g=some (.bool (!decide p)))(ha: ¬p→W P G N a Q T st)(hb:p→W P G N b Q T st):W P G N (.cond g a b) Q T st:=Qq (hK.QI hg) (fun h=>ha (by simpa using h)) fun h=>hb (by simpa using h)
theorem oQ{args:Array Operand}{tys:Array TypeId}{l:List AV}{u:AV}(hK:QY K T)(hM:Mem h0 n0 X st M)(h: ∃v st',Ev P G f l st v st'∧v=u∧Qt st st')(ha:Uy (QX G K) args.toList=some l)(hN:Nat.ble (d+1) N=true)(hn: ∀T' st',QY ((d,u)::K) T'→Mem h0 n0 X st' M→WR P G N ops rest R T' st'):
  WR P G N ops (⟨some d,.call {callee:=.value (.func f),args:=args,argTypes:=tys},ty,pos,af,none⟩::rest) R T st:=by
 obtain⟨v,st',ev,rfl,q⟩:=h;exact o1 hK (Qh ha ev) hN fun T' hK'=>hn T' st' hK' (hM.quiet q)
theorem oR{args:Array Operand}{tys:Array TypeId}{l:List AV}{u:AV}(k:Nat){c m m':Nat}{r r':List AV}(hK:QY K T)(hM:Mem h0 n0 X st M)(h: ∃v st',Ev P G f l st v st'∧v=u∧xj [c] st st'∧Q0 st'.h.get c m' r')(hk:M[k]? =some (c,m,r))(ha:Uy (QX G K) args.toList=some l)(hN:Nat.ble (d+1) N=true)(hn: ∀T' st',QY ((d,u)::K) T'→Mem h0 n0 X st' (M.set k (c,m',r'))→WR P G N ops rest R T' st'):
  WR P G N ops (⟨some d,.call {callee:=.value (.func f),args:=args,argTypes:=tys},ty,pos,af,none⟩::rest) R T st:=by
 obtain⟨v,st',ev,rfl,q,w⟩:=h;exact o1 hK (Qh ha ev) hN fun T' hK'=>hn T' st' hK' (hM.uG hk q w)
theorem B6{fn:Func}{c:Code}{N:Nat}{rs:List ResultVar}{args:List AV}{Q:AV→St→Prop}(hs:G.s f=none)(hf:P.funcs[f]? =some fn)(hb:fn.body=some c)(hN:fn.ntmps=N)(hr:fn.results.toList=rs)
 (h: ∀T,(∀t,Yy T t=(args[t]?).getD (.tup []))→W P G N c (fun x T st=>(x=.nor∨x=.ret)∧ ∃v,J7 P rs T st=some v∧Q v st) T st) (hname:(fn.name== "runtime.NumGoroutine")=false:=by decide) (hl:args.length≤N:=by simp): ∃v st',Ev P G f args st v st'∧Q v st':=xA hs hf hb hN hr hname hl h
theorem ay{t:Nat}{v:AV}(hK:QY K T)(h:K.lookup t=some v):J7 P [.tmp t] T st=some v:=KL (Q9 hK h)
theorem rt2{t s:Nat}{u v:AV}(hK:QY K T)(h:K.lookup t=some u)(h':K.lookup s=some v):J7 P [.tmp t,.tmp s] T st=some (.tup [u,v]):=JZ (Q9 hK h) (Q9 hK h')
theorem ai{a:Nat}{t:TypeId}{l r:List AV} [ht:TA P t n](k:Nat){c m off:Nat}(hK:QY K T)(hM:Mem h0 n0 X st M)(h:K.lookup a=some (.ptr c m off))(hk:M[k]? =some (c,m,l))(hl:Es n (Eu off l) (fun r=>some (AV.agg r))=some (.agg r)):J7 P [.cell a t] T st=some (.agg r):=KL (JD hK h (hM.load hk (QL ht.h hl)))
theorem Um{op:Op}{p:Prop} [Decidable p](hK:QY K T)(h:U3 P G K op st (.bool (decide p)) st)(hN:Nat.ble (d+1) N=true)(hf: ∀T',¬p→QY ((d,.bool false)::K) T'→WR P G N ops rest R T' st)(ht: ∀T',p→QY ((d,.bool true)::K) T'→WR P G N ops rest R T' st):WR P G N ops (⟨some d,op,ty,pos,af,none⟩::rest) R T st:=oB hK h hN (fun b T' e K'=>by cases b;exact hf T' (of_decide_eq_false e) K';exact ht T' (of_decide_eq_true e) K')
theorem xy{op:Op}{p:Prop} [Decidable p](hK:QY K T)(h:U3 P G K op st (.bool (!decide p)) st)(hN:Nat.ble (d+1) N=true)(hf: ∀T',p→QY ((d,.bool false)::K) T'→WR P G N ops rest R T' st)(ht: ∀T',¬p→QY ((d,.bool true)::K) T'→WR P G N ops rest R T' st):WR P G N ops (⟨some d,op,ty,pos,af,none⟩::rest) R T st:=oB hK h hN (fun b T' e K'=>by cases b;exact hf T' ((by simpa using e)) K';exact ht T' ((by simpa using e)) K')
theorem LI{op:Op}{p:Prop} [Decidable p](hK:QY K T)(hd:UU ops jj=some tt)(hb:K.lookup tt=some (.bool pol))(h:U3 P G K op st (.bool (decide p)) st)(hN:Nat.ble (d+1) N=true)(hf: ∀T',¬p→QY ((d,.bool false)::K) T'→WR P G N ops rest R T' st)(ht: ∀T',p→QY ((d,.bool true)::K) T'→WR P G N ops rest R T' st):WR P G N ops (⟨some d,op,ty,pos,af,some (jj,pol)⟩::rest) R T st:=eQ hK hd hb h hN (fun b T' e K'=>by cases b;exact hf T' (of_decide_eq_false e) K';exact ht T' (of_decide_eq_true e) K')
theorem aA{op:Op}{p:Prop} [Decidable p](hK:QY K T)(hd:UU ops jj=some tt)(hb:K.lookup tt=some (.bool pol))(h:U3 P G K op st (.bool (!decide p)) st)(hN:Nat.ble (d+1) N=true)(hf: ∀T',p→QY ((d,.bool false)::K) T'→WR P G N ops rest R T' st)(ht: ∀T',¬p→QY ((d,.bool true)::K) T'→WR P G N ops rest R T' st):WR P G N ops (⟨some d,op,ty,pos,af,some (jj,pol)⟩::rest) R T st:=eQ hK hd hb h hN (fun b T' e K'=>by cases b;exact hf T' ((by simpa using e)) K';exact ht T' ((by simpa using e)) K')
theorem eD{op:Op}{p:Prop} [Decidable p](ho:ops[i]? =some (⟨some d,op,ty,pos,af,none⟩))(hK:QY K T)(h:U3 P G K op st (.bool (decide p)) st)(hk:Nat.beq (QH P op) 3=false)(hN:Nat.ble (d+1) N=true)(hf: ∀T',¬p→QY ((d,.bool false)::K) T'→WD P G N ops (w.map (Yl ops)) R T' st sn)(ht: ∀T',p→QY ((d,.bool true)::K) T'→WD P G N ops (w.map (Yl ops)) R T' st sn):WD P G N ops (((i,0)::w).map (Yl ops)) R T st sn:=dB ho hK h hk hN (fun b T' e K'=>by cases b;exact hf T' (of_decide_eq_false e) K';exact ht T' (of_decide_eq_true e) K')
theorem dBn{op:Op}{p:Prop} [Decidable p](ho:ops[i]? =some (⟨some d,op,ty,pos,af,none⟩))(hK:QY K T)(h:U3 P G K op st (.bool (!decide p)) st)(hk:Nat.beq (QH P op) 3=false)(hN:Nat.ble (d+1) N=true)(hf: ∀T',p→QY ((d,.bool false)::K) T'→WD P G N ops (w.map (Yl ops)) R T' st sn)(ht: ∀T',¬p→QY ((d,.bool true)::K) T'→WD P G N ops (w.map (Yl ops)) R T' st sn):WD P G N ops (((i,0)::w).map (Yl ops)) R T st sn:=dB ho hK h hk hN (fun b T' e K'=>by cases b;exact hf T' ((by simpa using e)) K';exact ht T' ((by simpa using e)) K')
def wj:Nat→List AV→List (Nat×AV)
 |_,[]=>[]
 |i,v::l=>(i,v)::wj (i+1) l
theorem Ta: ∀(l:List AV) (i:Nat),(∀t,i≤t→Yy T t=(l[t-i]?).getD (.tup []))→QY (wj i l) T
 |[],_,_=>.nil
 |v::l,i,h=>.cons (by have:=h i (Nat.le_refl _);rwa [Nat.sub_self]at this) (Ta l (i+1) fun t ht=>by
  have:=h t Qe;rw[show t-i=t-(i+1)+1 by omega]at this
  exact this)
theorem JF{fn:Func}{c:Code}{N:Nat}{args:List AV}{Q:AV→St→Prop}(hf:P.funcs[f]? =some fn)(hN:fn.ntmps=N)
 (h: ∀T,QY (wj 0 args) T→W P G N c (fun x T st=>(x=.nor∨x=.ret)∧ ∃v,J7 P fn.results.toList T st=some v∧Q v st) T st) (hs:G.s f=none:=by rfl) (hb:fn.body=some c:=by rfl) (hname:(fn.name== "runtime.NumGoroutine")=false:=by decide) (hl:args.length≤N:=by simp): ∃v st',Ev P G f args st v st'∧Q v st':=xA hs hf hb hN rfl hname hl fun T hT=>h T (Ta args 0 fun t _=>hT t)
theorem p1{op:Op}{v:AV}(hK:QY K T)(h:U3 P G K op st v st1)(hn: ∀T',QY ((d,v)::K) T'→WR P G N ops rest R T' st1)(hN:Nat.ble (d+1) N=true:=by exact rfl):WR P G N ops (⟨some d,op,ty,pos,af,none⟩::rest) R T st:=o1 hK h hN hn
theorem pg{j t:Nat}{op:Op}{v:AV}(hK:QY K T)(ht:UU ops j=some t)(hb:K.lookup t=some (.bool pol))(h:U3 P G K op st v st1)(hn: ∀T',QY ((d,v)::K) T'→WR P G N ops rest R T' st1)(hN:Nat.ble (d+1) N=true:=by exact rfl):WR P G N ops (⟨some d,op,ty,pos,af,some (j,pol)⟩::rest) R T st:=og hK ht hb h hN hn
theorem q1{r:List (Nat×Nat)}{op:Op}{v:AV}(ho:ops[i]? =some ⟨some d,op,ty,pos,af,none⟩)(hK:QY K T)(h:U3 P G K op st v st1)(hn: ∀T',QY ((d,v)::K) T'→WD P G N ops (r.map (Yl ops)) R T' st1 sn)(hk:Nat.beq (QH P op) 3=false:=by exact rfl)(hN:Nat.ble (d+1) N=true:=by exact rfl):WD P G N ops (((i,0)::r).map (Yl ops)) R T st sn:=d1 ho hK h hk hN hn
theorem qA{r:List (Nat×Nat)}{op:Op}{v:AV}(ho:ops[i]? =some ⟨some d,op,ty,pos,af,none⟩)(hK:QY K T)(h:U3 P G K op st v st1)(hn: ∀T',QY ((d,v)::K) T'→WD P G N ops (r.map (Yl ops)) R T' st1 (st1::sn))(hk:Nat.beq (QH P op) 3=true:=by exact rfl)(hN:Nat.ble (d+1) N=true:=by exact rfl):WD P G N ops (((i,0)::r).map (Yl ops)) R T st sn:=dA ho hK h hk hN hn
end
end Go.Proofs.YtiknomepbklibaaGreatDoor
