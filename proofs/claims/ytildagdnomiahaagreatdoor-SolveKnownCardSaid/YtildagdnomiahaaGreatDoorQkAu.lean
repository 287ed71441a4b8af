/-
  Straight runs of operations in one step.
-/
import Derived.Test.YtildagdnomiahaaGreatDoorQkTyc
namespace Go.Proofs.YtildagdnomiahaaGreatDoor
open Go Go.RowKit
set_option linter.unusedVariables false
set_option linter.unusedSectionVars false
variable {F:Tr AV→St→Prop} {Y:List Nat} {af2:Array Edge} {cs:List AV} {d2 i id jj n t1 tt:Nat} {f:FuncId} {g:Operand} {ks:AV} {ls:List (List AV)} {pol:Bool} {pos2:String} {sn:List St} {st1:St} {t' ty2:TypeId} {w:List (Nat×Nat)}

class FO(P:Program)(t:TypeId)(f:Nat)(o:outParam Nat):Prop where
 h:Q5 P t f=some o
class T1(P:Program)(t:TypeId):Prop where
 h:tk P t=.one
class TA(P:Program)(t:TypeId)(n:outParam Nat):Prop where
 h:tk P t=.agg n
class ZE(P:Program)(t:TypeId)(l:outParam (List AV)):Prop where
 h:zeroOf P t=some l
class SZ(P:Program)(t:TypeId)(n:outParam Nat):Prop where
 h:Yb P t=some n
class UL(P:Program)(t:TypeId):Prop where
 h: ∃e,P.underlying t=some (.slice e)
class ST(P:Program)(t:TypeId)(tbl:outParam (List (Nat×Nat)))(z:outParam (List AV)):Prop where
 h:Rk P t tbl z
class SL(P:Program)(t:TypeId)(e:outParam TypeId)(z:outParam Nat):Prop where
 h:AK P t e z
instance :FO Tryz.prog 44 0 0:=⟨N7⟩
instance :FO Tryz.prog 44 1 1:=⟨N6⟩
instance :FO Tryz.prog 44 2 2:=⟨N5⟩
instance :FO Tryz.prog 44 3 3:=⟨N4⟩
instance :FO Tryz.prog 44 4 4:=⟨N3⟩
instance :FO Tryz.prog 44 5 5:=⟨N2⟩
instance :FO Tryz.prog 201 0 0:=⟨NA⟩
instance :FO Tryz.prog 201 1 1:=⟨N9⟩
instance :FO Tryz.prog 201 2 2:=⟨N8⟩
instance :FO Tryz.prog 123 0 0:=⟨Hw⟩
instance :FO Tryz.prog 123 1 1:=⟨Hv⟩
instance :FO Tryz.prog 296 0 0:=⟨Iy⟩
instance :FO Tryz.prog 296 1 1:=⟨Ix⟩
instance :FO Tryz.prog 250 0 0:=⟨N1⟩
instance :FO Tryz.prog 250 1 1:=⟨N0⟩
instance :FO Tryz.prog 250 2 2:=⟨Nz⟩
instance :FO Tryz.prog 257 0 0:=⟨Li⟩
instance :FO Tryz.prog 257 1 1:=⟨Lh⟩
instance :FO Tryz.prog 257 2 2:=⟨Lg⟩
instance :FO Tryz.prog 278 0 0:=⟨I7⟩
instance :FO Tryz.prog 278 1 1:=⟨I6⟩
instance :FO Tryz.prog 278 2 2:=⟨I5⟩
instance :FO Tryz.prog 289 0 0:=⟨I1⟩
instance :FO Tryz.prog 289 1 1:=⟨I0⟩
instance :FO Tryz.prog 289 2 2:=⟨Iz⟩
instance :FO Tryz.prog 301 0 0:=⟨F9⟩
instance :FO Tryz.prog 301 1 1:=⟨F8⟩
instance :FO Tryz.prog 301 2 2:=⟨F7⟩
instance :FO Tryz.prog 354 0 0:=⟨Nv⟩
instance :FO Tryz.prog 356 0 0:=⟨Ny⟩
instance :FO Tryz.prog 356 1 1:=⟨Nx⟩
instance :FO Tryz.prog 356 2 2:=⟨Nw⟩
instance :FO Tryz.prog 338 0 0:=⟨I4⟩
instance :FO Tryz.prog 338 1 1:=⟨I3⟩
instance :FO Tryz.prog 338 2 2:=⟨I2⟩
instance :T1 Tryz.prog 199:=⟨JJ⟩
instance :TA Tryz.prog 201 3:=⟨B8⟩
instance :T1 Tryz.prog 86:=⟨Hg⟩
instance :T1 Tryz.prog 124:=⟨JV⟩
instance :T1 Tryz.prog 205:=⟨Je⟩
instance :T1 Tryz.prog 254:=⟨JU⟩
instance :T1 Tryz.prog 255:=⟨AY⟩
instance :T1 Tryz.prog 328:=⟨Yi⟩
instance :TA Tryz.prog 282 3:=⟨SJ⟩
instance :T1 Tryz.prog 286:=⟨YA⟩
instance :T1 Tryz.prog 287:=⟨WC⟩
instance :TA Tryz.prog 301 3:=⟨QN⟩
instance :ZE Tryz.prog 201 [.int .i64 0,.nils,.nils]:=⟨W9⟩
instance :ZE Tryz.prog 124 [.nilp]:=⟨ES⟩
instance :ZE Tryz.prog 123 [.int .i64 0,.bool false]:=⟨W7⟩
instance :ZE Tryz.prog 296 [.nilp,.nilp]:=⟨EO⟩
instance :ZE Tryz.prog 250 [.nils,.nils,.nilp]:=⟨HJ⟩
instance :ZE Tryz.prog 257 [.int .i64 0,.nils,.nilm]:=⟨AR⟩
instance :ZE Tryz.prog 328 [.nili]:=⟨W8⟩
instance :ZE Tryz.prog 278 [.int .i64 0,.bool false,.int .i64 0]:=⟨Vk⟩
instance :ZE Tryz.prog 282 [.int .i64 0,.int .i64 0,.int .i64 0]:=⟨NJ⟩
instance :ZE Tryz.prog 289 [.nilm,.nils,.nilp]:=⟨EP⟩
instance :ZE Tryz.prog 301 [.nilf,.int .i64 0,.int .i64 0]:=⟨Wu⟩
instance :ZE Tryz.prog 354 [.int .i64 0]:=⟨HF⟩
instance :ZE Tryz.prog 356 [.int .i64 0,.int .i64 0,.int .i64 0]:=⟨HI⟩
instance :ZE Tryz.prog 338 [.nilp,.nilf,.nilm]:=⟨ER⟩
instance :T1 Tryz.prog 3:=⟨Qr⟩
instance :T1 Tryz.prog 4:=⟨XW⟩
instance :T1 Tryz.prog 9:=⟨Hf⟩
instance :T1 Tryz.prog 42:=⟨LZ⟩
instance :TA Tryz.prog 44 6:=⟨J6⟩
instance :TA Tryz.prog 222 2:=⟨NN⟩
instance :T1 Tryz.prog 48:=⟨Jd⟩
instance :ZE Tryz.prog 3 [.int .i64 0]:=⟨FZ⟩
instance :ZE Tryz.prog 4 [.bool false]:=⟨Ew⟩
instance :ZE Tryz.prog 9 [.str []]:=⟨NI⟩
instance :ZE Tryz.prog 44 [.str [],.int .i64 0,.int .i64 0,.int .i64 0,.int .i64 0,.nils]:=⟨XS⟩
instance :ZE Tryz.prog 222 [.int .i64 0,.int .i64 0]:=⟨YU⟩
instance :ZE Tryz.prog 48 [.nils]:=⟨Zd⟩
instance :SZ Tryz.prog 199 1:=⟨V8⟩
instance :SZ Tryz.prog 201 3:=⟨ZK⟩
instance :SZ Tryz.prog 254 1:=⟨EV⟩
instance :SZ Tryz.prog 278 3:=⟨EU⟩
instance :SZ Tryz.prog 282 3:=⟨SP⟩
instance :SZ Tryz.prog 287 1:=⟨HP⟩
instance :SZ Tryz.prog 301 3:=⟨Ir⟩
instance :SZ Tryz.prog 356 3:=⟨BD⟩
instance :SZ Tryz.prog 3 1:=⟨OR⟩
instance :SZ Tryz.prog 4 1:=⟨E1⟩
instance :SZ Tryz.prog 44 6:=⟨YV⟩
instance :SZ Tryz.prog 222 2:=⟨SQ⟩
instance :SZ Tryz.prog 48 1:=⟨Kj⟩
instance :UL Tryz.prog 22:=⟨_,JT⟩
instance :UL Tryz.prog 47:=⟨_,HN⟩
instance :SL Tryz.prog 47 9 1:=⟨BL⟩
instance :UL Tryz.prog 42:=⟨_,JD⟩
instance :ST Tryz.prog 44 [(0,1),(1,1),(2,1),(3,1),(4,1),(5,1)] [.str [],.int .i64 0,.int .i64 0,.int .i64 0,.int .i64 0,.nils]:=⟨BI⟩
instance :UL Tryz.prog 48:=⟨_,Jr⟩
instance :SL Tryz.prog 42 44 6:=⟨EX⟩
instance :SL Tryz.prog 48 3 1:=⟨QR⟩
instance :UL Tryz.prog 199:=⟨_,V3⟩
instance :ST Tryz.prog 201 [(0,1),(1,1),(2,1)] [.int .i64 0,.nils,.nils]:=⟨HT⟩
instance :ST Tryz.prog 123 [(0,1),(1,1)] [.int .i64 0,.bool false]:=⟨Kt⟩
instance :ST Tryz.prog 296 [(0,1),(1,1)] [.nilp,.nilp]:=⟨Na⟩
instance :ST Tryz.prog 250 [(0,1),(1,1),(2,1)] [.nils,.nils,.nilp]:=⟨HS⟩
instance :UL Tryz.prog 193:=⟨_,Ww⟩
instance :UL Tryz.prog 254:=⟨_,ZA⟩
instance :ST Tryz.prog 257 [(0,1),(1,1),(2,1)] [.int .i64 0,.nils,.nilm]:=⟨OT⟩
instance :ST Tryz.prog 278 [(0,1),(1,1),(2,1)] [.int .i64 0,.bool false,.int .i64 0]:=⟨Nd⟩
instance :UL Tryz.prog 287:=⟨_,ZJ⟩
instance :ST Tryz.prog 289 [(0,1),(1,1),(2,1)] [.nilm,.nils,.nilp]:=⟨Nb⟩
instance :ST Tryz.prog 301 [(0,1),(1,1),(2,1)] [.nilf,.int .i64 0,.int .i64 0]:=⟨Is⟩
instance :ST Tryz.prog 354 [(0,1)] [.int .i64 0]:=⟨BG⟩
instance :ST Tryz.prog 356 [(0,1),(1,1),(2,1)] [.int .i64 0,.int .i64 0,.int .i64 0]:=⟨BH⟩
instance :ST Tryz.prog 338 [(0,1),(1,1),(2,1)] [.nilp,.nilf,.nilm]:=⟨Nc⟩
instance :SL Tryz.prog 199 4 1:=⟨UP⟩
instance :SL Tryz.prog 193 124 1:=⟨UJ⟩
instance :SL Tryz.prog 254 328 1:=⟨Vm⟩
instance :SL Tryz.prog 287 222 2:=⟨WH⟩
abbrev iZ(z:Int):AV:=.int .i64 z
abbrev iN(n:Nat):AV:=.int .i64 n
def SG(j:Nat)(q:St→Prop)(h0:Hp)(n0:Nat)(X:List Nat)(K:List (Nat×AV))(M:List (Nat×Nat×List AV))(F:Tr AV→St→Prop):Prop:= ∀T st,QG K T→q st→Mem h0 n0 X st M→F T st
def To(g g':Prop):Prop:=g'→g
structure PO(P:Program)(G:Env)(h0:Hp)(n0:Nat)(X:List Nat)(K:List (Nat×AV))(M:List (Nat×Nat×List AV))(op:Op)(v:AV):Prop where
 h: ∀st,Mem h0 n0 X st M→Uk P G K op st v st
section
variable {j:Nat} {q:St→Prop} {P:Program} {G:Env} {N:Nat} {h0:Hp} {n0:Nat} {X:List Nat} {K:List (Nat×AV)} {M:List (Nat×Nat×List AV)} {g':Prop} {ops rest:List Oper} {R:Tr AV→St→Prop} {Q:Ex→Tr AV→St→Prop} {d:Nat} {ty:TypeId} {pos:String} {af:Array Edge} {st:St} {op:Op} {u v:AV} {x y:Operand} {t yt:TypeId} {k:IntKind} {a b:Int} {r l:List AV} {c m off:Nat} {A B:Bool} {tys:Array TypeId} {s z:List Nat}
theorem wR(h:QE G K x=some v):PO P G h0 n0 X K M (.move x) (v):=⟨fun _ hM=>Q8 h⟩
theorem qS(h:QE G K x=some v):PO P G h0 n0 X K M (.assign x) (v):=⟨fun _ hM=>Ys h⟩
theorem Aq [ht:T1 P t](i:Nat)(h:QE G K x=some (.ptr c m off))(h1:M[i]? =some (c,m,l))(h2:nth l off=some v):PO P G h0 n0 X K M (.load t x) v:=⟨fun _ hM=>Qi h (hM.load h1 (Qb ht.h h2))⟩
theorem Wi [ht:TA P t n](i:Nat)(h:QE G K x=some (.ptr c m off))(h1:M[i]? =some (c,m,l))(h2:V7 n (VR off l) (fun r=>some (AV.agg r))=some (.agg r)):PO P G h0 n0 X K M (.load t x) (.agg r):=⟨fun _ hM=>Qi h (hM.load h1 (Jh ht.h h2))⟩
theorem fP{f o:Nat} [ho:FO P t f o](h:QE G K x=some (.ptr c m off)):PO P G h0 n0 X K M (.fieldAddr t x f) (.ptr c m (off+o)):=⟨fun _ hM=>Ur ho.h h⟩
theorem wQ(h:QE G K x=some (.ptr c m off)):PO P G h0 n0 X K M (.nilCheck x) (.ptr c m off):=⟨fun _ hM=>wW h rfl⟩
theorem fQ(h:QE G K x=some (.tup l))(h':nth l i=some v):PO P G h0 n0 X K M (.extract x i) (v):=⟨fun _ hM=>Pu h h'⟩
theorem wP{w1 w2:Operand}(h:QE G K x=some (.bool A))(h1:QE G K w1=some u)(h2:QE G K w2=some v):PO P G h0 n0 X K M (.pick x w1 w2) (Qj A u v):=⟨fun _ hM=>zO h h1 h2⟩
theorem fI(h:QE G K x=some (.bool A)):PO P G h0 n0 X K M (.unOp .not t x) (.bool (!A)):=⟨fun _ hM=>qY h⟩
theorem fL(h:QE G K x=some (.int k a))(h':QE G K y=some (.int k b)):PO P G h0 n0 X K M (.binOp .lss t x y yt) (.bool (decide (a<b))):=⟨fun _ hM=>wY h h'⟩
theorem fN(h:QE G K x=some (.int k a))(h':QE G K y=some (.int k b)):PO P G h0 n0 X K M (.binOp .gtr t x y yt) (.bool (decide (b<a))):=⟨fun _ hM=>ec h h'⟩
theorem fM(h:QE G K x=some (.int k a))(h':QE G K y=some (.int k b)):PO P G h0 n0 X K M (.binOp .leq t x y yt) (.bool (decide (a≤b))):=⟨fun _ hM=>wZ h h'⟩
theorem fO(h:QE G K x=some (.int k a))(h':QE G K y=some (.int k b)):PO P G h0 n0 X K M (.binOp .geq t x y yt) (.bool (decide (b≤a))):=⟨fun _ hM=>ee h h'⟩
theorem fS(h:QE G K x=some (.int k a))(h':QE G K y=some (.int k b)):PO P G h0 n0 X K M (.binOp .eql t x y yt) (.bool (decide (a=b))):=⟨fun _ hM=>jb h h'⟩
theorem fK(h:QE G K x=some (.int k a))(h':QE G K y=some (.int k b)):PO P G h0 n0 X K M (.binOp .neq t x y yt) (.bool (!decide (a=b))):=⟨fun _ hM=>qZ h h'⟩
theorem fR(h:QE G K x=some (.str s))(h':QE G K y=some (.str z)):PO P G h0 n0 X K M (.binOp .eql t x y yt) (.bool (decide (s=z))):=⟨fun _ hM=>JF h h'⟩
theorem fJ(h:QE G K x=some (.str s))(h':QE G K y=some (.str z)):PO P G h0 n0 X K M (.binOp .neq t x y yt) (.bool (!decide (s=z))):=⟨fun _ hM=>Gx h h'⟩
theorem fT(h:QE G K x=some (.int .i64 a))(h':QE G K y=some (.int .i64 b))(h1: -9223372036854775808≤a+b)(h2:a+b≤9223372036854775807):PO P G h0 n0 X K M (.binOp .add t x y yt) (.int .i64 (a+b)):=⟨fun _ _=>ef h h' h1 h2⟩
theorem fH(h:QE G K x=some (.int .i64 a))(h':QE G K y=some (.int .i64 b))(h1: -9223372036854775808≤a-b)(h2:a-b≤9223372036854775807):PO P G h0 n0 X K M (.binOp .sub t x y yt) (.int .i64 (a-b)):=⟨fun _ _=>qW h h' h1 h2⟩
theorem wT [hu:UL P t](h:QE G K x=some u)(h':JZ u=some n):PO P G h0 n0 X K M (.call {callee:=.builtin .len,args:= #[x],argTypes:= #[t]}) (.int .i64 (n:Int)):=⟨fun _ _=>by obtain⟨e,hu⟩:=hu.h;exact Q7 hu rfl h h'⟩
theorem zJ{parts:Array (Nat×Operand)}{ps:List (Nat×AV)}{tbl:List (Nat×Nat)}{zz:List AV} [hs:ST P t tbl zz](h:Yz (QE G K) parts=some ps)(h':ZT (nth tbl) ps zz=some r):PO P G h0 n0 X K M (.build t parts) (.agg r):=⟨fun _ hM=>Fj hs.h h h'⟩
theorem qf{k:Tr AV→St→Prop}(h:To (SG j q h0 n0 X K M (k)) g'):To (SG j q h0 n0 X K M (Ki k Q .nor)) g':=h
theorem vH(h:To (SG j q h0 n0 X K M (Q .nor)) g'):To (SG j q h0 n0 X K M (Ba id Q .nor)) g':=h
theorem vE{a b:Code}(h:To (SG j q h0 n0 X K M (W P G N (a) (Ki (W P G N b Q) Q))) g'):To (SG j q h0 n0 X K M (W P G N (.seq a b) Q)) g':=fun h' T st hK hq hM=>ZG (h h' T st hK hq hM)
theorem Ry{c:Code}(h:To (SG j q h0 n0 X K M (W P G N (c) (Ba id Q))) g'):To (SG j q h0 n0 X K M (W P G N (.block id c) Q)) g':=fun h' T st hK hq hM=>ze (h h' T st hK hq hM)
theorem qg(h:To (SG j q h0 n0 X K M (Q .nor)) g'):To (SG j q h0 n0 X K M (W P G N (.skip) Q)) g':=fun h' T st hK hq hM=>wu (h h' T st hK hq hM)
theorem Rx{l:Nat}(h:To (SG j q h0 n0 X K M (Q .nor)) g'):To (SG j q h0 n0 X K M (W P G N (.label l) Q)) g':=fun h' T st hK hq hM=>zd (h h' T st hK hq hM)
theorem BB{l:List Oper}(h:To (SG j q h0 n0 X K M (WR P G N l l (Q .nor))) g'):To (SG j q h0 n0 X K M (W P G N (.region id l.toArray false) Q)) g':=fun h' T st hK hq hM=>MK (h h' T st hK hq hM)
theorem vF(h:To (SG j q h0 n0 X K M (R)) g'):To (SG j q h0 n0 X K M (WR P G N ops [] R)) g':=fun h' T st hK hq hM=>wm (h h' T st hK hq hM)
theorem fy{a b:Code}(hg:QE G K g=some (.bool true))(h:To (SG j q h0 n0 X K M (W P G N (a) Q)) g'):To (SG (j+1) q h0 n0 X K M (W P G N (.cond g a b) Q)) g':=fun h' T st hK hq hM=>Kg (hK.QI hg) (fun _=>h h' T st hK hq hM) (fun e=>by cases e)
theorem fz{a b:Code}(hg:QE G K g=some (.bool false))(h:To (SG j q h0 n0 X K M (W P G N (b) Q)) g'):To (SG (j+1) q h0 n0 X K M (W P G N (.cond g a b) Q)) g':=fun h' T st hK hq hM=>Kg (hK.QI hg) (fun e=>by cases e) (fun _=>h h' T st hK hq hM)
theorem kT(hp:PO P G h0 n0 X K M op v)(hN:Nat.ble (d+1) N=true)(h:To (SG j q h0 n0 X ((d,v)::K) M (WR P G N ops rest R)) g'):To (SG (j+1) q h0 n0 X K M (WR P G N ops (⟨some d,op,ty,pos,af,none⟩::rest) R)) g':=fun h' T st hK hq hM=>o1 hK (hp.h st hM) hN fun T' hK'=>h h' T' st hK' hq hM
theorem kU(hp:PO P G h0 n0 X K M op v)(hh:Ui ops jj=some tt∧K.lookup tt=some (.bool pol)∧Nat.ble (d+1) N=true)(h:To (SG j q h0 n0 X ((d,v)::K) M (WR P G N ops rest R)) g'):To (SG (j+1) q h0 n0 X K M (WR P G N ops (⟨some d,op,ty,pos,af,some (jj,pol)⟩::rest) R)) g':=fun h' T st hK hq hM=>og hK hh.1 hh.2.1 (hp.h st hM) hh.2.2 fun T' hK'=>h h' T' st hK' hq hM
theorem fx(hh:Ui ops jj=some tt∧K.lookup tt=some (.bool A)∧(A==pol)=false∧Nat.ble (d+1) N=true)(h:To (SG j q h0 n0 X ((d,.tup [])::K) M (WR P G N ops rest R)) g'):To (SG (j+1) q h0 n0 X K M (WR P G N ops (⟨some d,op,ty,pos,af,some (jj,pol)⟩::rest) R)) g':=fun h' T st hK hq hM=>gn hK hh.1 hh.2.1 hh.2.2.1 hh.2.2.2 fun T' hK'=>h h' T' st hK' hq hM
theorem vG(hh:Ui ops jj=some tt∧K.lookup tt=some (.tup [])∧Nat.ble (d+1) N=true)(h:To (SG j q h0 n0 X ((d,.tup [])::K) M (WR P G N ops rest R)) g'):To (SG (j+1) q h0 n0 X K M (WR P G N ops (⟨some d,op,ty,pos,af,some (jj,pol)⟩::rest) R)) g':=fun h' T st hK hq hM=>l9 hK hh.1 hh.2.1 hh.2.2 fun T' hK'=>h h' T' st hK' hq hM
theorem VZ [hz:SZ P t n](i:Nat){r':List AV}(hh:QE G K x=some (.ptr c m off)∧QE G K y=some v∧M[i]? =some (c,m,r)∧(QJ v).length=n∧Xu Qw (QJ v)=true∧Yw (QJ v) off r=some r')(h:To (SG j (fun _=>True) h0 n0 X K (M.set i (c,m,r')) (WR P G N ops rest R)) g'):To (SG (j+1) (fun _=>True) h0 n0 X K M (WR P G N ops (⟨none,.store t x y,ty,pos,af,none⟩::rest) R)) g':=fun h' T st hK _ hM=>Yf (k:=i) hK hM hh.1 hh.2.1 hh.2.2.1 hz.h hh.2.2.2.1 hh.2.2.2.2.1 hh.2.2.2.2.2 fun st' hM'=>h h' T st' hK trivial hM'
theorem zu{g:Nat→Prop} [hz:ZE P t l](hN:Nat.ble (d+1) N=true)(h: ∀c,To (SG j (fun _=>True) h0 n0 X ((d,.ptr c 0 0)::K) ((c,0,l)::M) (WR P G N ops rest R)) (g c)):To (SG (j+1) (fun _=>True) h0 n0 X K M (WR P G N ops (⟨some d,.alloc t,ty,pos,af,none⟩::rest) R)) (∀c,g c):=fun h' T st hK _ hM=>Bu hK hM hz.h (Nat.le_of_ble_eq_true hN) fun c T' st' hK' hM'=>h c (h' c) T' st' hK' trivial hM'
theorem fA{g:Nat→Prop}(hh:QE G K x=some v∧Nat.ble (d+1) N=true)(hc:True→Xu Qw (QJ v)=true)(h: ∀c,To (SG j (fun _=>True) h0 n0 X ((d,.ptr c 0 0)::K) ((c,0,QJ v)::M) (WR P G N ops rest R)) (g c)):To (SG (j+1) (fun _=>True) h0 n0 X K M (WR P G N ops (⟨some d,.box t x,ty,pos,af,none⟩::rest) R)) (∀c,g c):=fun h' T st hK _ hM=>Uj hK hM hh.1 (hc trivial) (Nat.le_of_ble_eq_true hh.2) fun c T' st' hK' hM'=>h c (h' c) T' st' hK' trivial hM'
theorem iY{g:Nat→Prop}{e:TypeId}{len w:Nat}{parts:Array (Nat×Operand)}{ps:List (Nat×AV)} [hs:SL P t e w] [hz:ZE P e l](hh:Yz (QE G K) parts=some ps∧ZT (fun i=>some (i *w,w)) ps (Xn len l)=some r∧Xu Qw r=true∧Nat.ble (len *w) 16777216=true∧Nat.ble (d+1) N=true)(h: ∀c,To (SG j (fun _=>True) h0 n0 X ((d,.sl c 0 0 len w)::K) ((c,0,r)::M) (WR P G N ops rest R)) (g c)):To (SG (j+1) (fun _=>True) h0 n0 X K M (WR P G N ops (⟨some d,.buildSlice t len parts,ty,pos,af,none⟩::rest) R)) (∀c,g c):=fun h' T st hK _ hM=>AU hK hM hs.h hz.h hh.1 hh.2.1 hh.2.2.1 hh.2.2.2.1 hh.2.2.2.2 fun c T' st' hK' hM'=>h c (h' c) T' st' hK' trivial hM'
theorem wB{g:Prop}:To g g:=id
theorem zr:To (SG j (fun s=>s=st) h0 n0 X K M (F)) (∀T,QG K T→F T st):=fun h T _ hK hq hM=>hq▸h T hK
theorem iT{k:Tr AV→St→Prop}(h:To (SG j q h0 n0 X K M (W P G N (.ret) Q)) g'):To (SG j q h0 n0 X K M (W P G N (.ret) (Ki k Q))) g':=fun h' T st hK hq hM=>ZH (by have h2:=h h' T st hK hq hM;obtain⟨L,n,x,T',st',h3,h4⟩:=h2;injection h3 with h3;injection h3 with h5 h6;injection h6 with h6 h7;subst h5 h6 h7;exact h4)
theorem iU(h:To (SG j q h0 n0 X K M (W P G N (.ret) Q)) g'):To (SG j q h0 n0 X K M (W P G N (.ret) (Ba id Q))) g':=fun h' T st hK hq hM=>ZH (by have h2:=h h' T st hK hq hM;obtain⟨L,n,x,T',st',h3,h4⟩:=h2;injection h3 with h3;injection h3 with h5 h6;injection h6 with h6 h7;subst h5 h6 h7;exact h4)
theorem iW{Z:AV→St→Prop}{rs:List ResultVar}(hr:rs=[.tmp t1])(hh:K.lookup t1=some v):To (SG j (fun s=>s=st) h0 n0 X K M (W P G N (.ret) (fun x T s=>(x=.nor∨x=.ret)∧ ∃v,QM P rs T s=some v∧Z v s))) (Z v st):=fun h' T s hK hq hM=>ZH ⟨.inr rfl,_,by rw[hr];exact IE (UW hK hh),by subst hq;exact h'⟩
theorem iV{t2:Nat}{Z:AV→St→Prop}{rs:List ResultVar}(hr:rs=[.tmp t1,.tmp t2])(hh:K.lookup t1=some u∧K.lookup t2=some v):To (SG j (fun s=>s=st) h0 n0 X K M (W P G N (.ret) (fun x T s=>(x=.nor∨x=.ret)∧ ∃v,QM P rs T s=some v∧Z v s))) (Z (.tup [u,v]) st):=fun h' T s hK hq hM=>ZH ⟨.inr rfl,_,by rw[hr];exact Yd (UW hK hh.1) (UW hK hh.2),by subst hq;exact h'⟩
theorem wA{Z:AV→St→Prop}{rs:List ResultVar}(i:Nat)(ht:TA P t n)(hr:rs=[.cell t1 t])(hh:K.lookup t1=some (.ptr c m off)∧M[i]? =some (c,m,l)∧V7 n (VR off l) (fun r=>some (AV.agg r))=some (.agg r)):To (SG j (fun s=>s=st) h0 n0 X K M (W P G N (.ret) (fun x T s=>(x=.nor∨x=.ret)∧ ∃v,QM P rs T s=some v∧Z v s))) (Z (.agg r) st):=fun h' T s hK hq hM=>ZH ⟨.inr rfl,_,by rw[hr];exact IE (Yc hK hh.1 (hM.load hh.2.1 (Jh ht.h hh.2.2))),by subst hq;exact h'⟩
theorem iM(h:PO P G h0 n0 X K M op v:=by first|(apply wR<;>exact rfl)|(apply qS<;>exact rfl)|(apply Aq 0<;>exact rfl)|(apply Aq 1<;>exact rfl)|(apply Aq 2<;>exact rfl)|(apply Aq 3<;>exact rfl)|(apply Aq 4<;>exact rfl)|(apply Aq 5<;>exact rfl)|(apply Aq 6<;>exact rfl)|(apply Wi 0<;>exact rfl)|(apply Wi 1<;>exact rfl)|(apply Wi 2<;>exact rfl)|(apply Wi 3<;>exact rfl)|(apply Wi 4<;>exact rfl)|(apply Wi 5<;>exact rfl)|(apply Wi 6<;>exact rfl)|(apply fP<;>exact rfl)|(apply wQ<;>exact rfl)|(apply fQ<;>exact rfl)|(apply wP<;>exact rfl)|(apply fI<;>exact rfl)|(apply fL<;>exact rfl)|(apply fN<;>exact rfl)|(apply fM<;>exact rfl)|(apply fO<;>exact rfl)|(apply fS<;>exact rfl)|(apply fK<;>exact rfl)|(apply fR<;>exact rfl)|(apply fJ<;>exact rfl)|(apply fT;exact rfl;exact rfl;omega;omega)|(apply fH;exact rfl;exact rfl;omega;omega)|(apply wT<;>exact rfl)|(apply zJ<;>exact rfl)):PO P G h0 n0 X K M op v:=h
theorem au(j:Nat){T:Tr AV}{st:St}(hK:QG K T)(hM:Mem h0 n0 X st M)(hn:g')(h:To (SG j (fun _=>True) h0 n0 X K M (F)) g':=by
 repeat' first
  |with_reducible refine' qf ?_
  |with_reducible refine' vH ?_
  |with_reducible refine' vE ?_
  |with_reducible refine' vF ?_
  |with_reducible refine' Ry ?_
  |with_reducible refine' qg ?_
  |with_reducible refine' Rx ?_
  |with_reducible refine' BB ?_
  |((first|with_reducible refine' kT ?_ ?_ ?_|with_reducible refine' kU ?_ ?_ ?_);(any_goals exact iM);any_goals first|exact rfl|exact⟨rfl,rfl,rfl⟩)
  |((with_reducible refine' fx ?_ ?_);any_goals exact⟨rfl,rfl,rfl,rfl⟩)
  |((with_reducible refine' vG ?_ ?_);any_goals exact⟨rfl,rfl,rfl⟩)
  |((with_reducible refine' fy ?_ ?_);any_goals exact rfl)
  |((with_reducible refine' fz ?_ ?_);any_goals exact rfl)
  |((with_reducible refine' VZ 0 ?_ ?_);any_goals exact⟨rfl,rfl,rfl,rfl,rfl,rfl⟩)
  |((with_reducible refine' VZ 1 ?_ ?_);any_goals exact⟨rfl,rfl,rfl,rfl,rfl,rfl⟩)
  |((with_reducible refine' VZ 2 ?_ ?_);any_goals exact⟨rfl,rfl,rfl,rfl,rfl,rfl⟩)
  |((with_reducible refine' VZ 3 ?_ ?_);any_goals exact⟨rfl,rfl,rfl,rfl,rfl,rfl⟩)
  |((with_reducible refine' VZ 4 ?_ ?_);any_goals exact⟨rfl,rfl,rfl,rfl,rfl,rfl⟩)
  |((with_reducible refine' VZ 5 ?_ ?_);any_goals exact⟨rfl,rfl,rfl,rfl,rfl,rfl⟩)
  |((with_reducible refine' VZ 6 ?_ ?_);any_goals exact⟨rfl,rfl,rfl,rfl,rfl,rfl⟩)
  |((with_reducible refine' zu ?_ fun _=>?_);any_goals exact rfl)
  |((with_reducible refine' iY ?_ fun _=>?_);any_goals exact⟨rfl,rfl,rfl,rfl,rfl⟩)
  |((with_reducible refine' fA ?_ ?_ fun _=>?_);(any_goals exact⟨rfl,rfl⟩);any_goals(intro(_:True);(repeat first|exact rfl|assumption|refine Qc ?_ ?_);done))
  |with_reducible exact wB):F T st:=h hn T st hK trivial hM
theorem Qa(j:Nat){T:Tr AV}{st:St}(hK:QG K T)(hM:Mem h0 n0 X st M)(hn:g')(h:To (SG j (fun s=>s=st) h0 n0 X K M (F)) g':=by
 repeat' first
  |with_reducible refine' qf ?_
  |with_reducible refine' vH ?_
  |with_reducible refine' vE ?_
  |with_reducible refine' vF ?_
  |with_reducible refine' Ry ?_
  |with_reducible refine' qg ?_
  |with_reducible refine' Rx ?_
  |with_reducible refine' BB ?_
  |((first|with_reducible refine' kT ?_ ?_ ?_|with_reducible refine' kU ?_ ?_ ?_);(any_goals exact iM);any_goals first|exact rfl|exact⟨rfl,rfl,rfl⟩)
  |((with_reducible refine' fx ?_ ?_);any_goals exact⟨rfl,rfl,rfl,rfl⟩)
  |((with_reducible refine' vG ?_ ?_);any_goals exact⟨rfl,rfl,rfl⟩)
  |((with_reducible refine' fy ?_ ?_);any_goals exact rfl)
  |((with_reducible refine' fz ?_ ?_);any_goals exact rfl)
  |with_reducible refine' iT ?_
  |with_reducible refine' iU ?_
  |((with_reducible refine' iW ?_ ?_);any_goals exact rfl)
  |((with_reducible refine' iV ?_ ?_);(any_goals exact rfl);any_goals exact⟨rfl,rfl⟩)
  |((with_reducible refine' wA 0 ?_ ?_ ?_);(any_goals exact rfl);(any_goals infer_instance);any_goals exact⟨rfl,rfl,rfl⟩)
  |((with_reducible refine' wA 1 ?_ ?_ ?_);(any_goals exact rfl);(any_goals infer_instance);any_goals exact⟨rfl,rfl,rfl⟩)
  |((with_reducible refine' wA 2 ?_ ?_ ?_);(any_goals exact rfl);(any_goals infer_instance);any_goals exact⟨rfl,rfl,rfl⟩)
  |with_reducible exact zr):F T st:=h hn T st hK rfl hM
def DG(P:Program)(G:Env)(N:Nat)(h0:Hp)(n0:Nat)(X:List Nat)(M:List (Nat×Nat×List AV))(st:St)(sn:List St)(ops:List Oper)(R:Tr AV→St→Prop)(j:Nat)(w:List (Nat×Nat))(K:List (Nat×AV)):Prop:=Mem h0 n0 X st M→ ∀T,QG K T→WD P G N ops (w.map (UK ops)) R T st sn
theorem ll(ho:ops[i]? =some (⟨some d,op,ty,pos,af,none⟩))(hp:PO P G h0 n0 X K M op v)(hh:Nat.beq (Qx P op) 3=false∧Nat.ble (d+1) N=true)(h:To (DG P G N h0 n0 X M st sn ops R j w ((d,v)::K)) g'):To (DG P G N h0 n0 X M st sn ops R (j+1) ((i,0)::w) K) g':=fun h' hM T hK=>d1 ho hK (hp.h st hM) hh.1 hh.2 fun T' hK'=>h h' hM T' hK'
theorem iX(ho:ops[i]? =some (⟨some d,op,ty,pos,af,some (jj,pol)⟩))(hp:PO P G h0 n0 X K M op v)(hh:Ui ops jj=some tt∧K.lookup tt=some (.bool pol)∧Nat.beq (Qx P op) 3=false∧Nat.ble (d+1) N=true)(h:To (DG P G N h0 n0 X M st sn ops R j w ((d,v)::K)) g'):To (DG P G N h0 n0 X M st sn ops R (j+1) ((i,0)::w) K) g':=fun h' hM T hK=>dg ho hK hh.1 hh.2.1 (hp.h st hM) hh.2.2.1 hh.2.2.2 fun T' hK'=>h h' hM T' hK'
theorem zt:To (DG P G N h0 n0 X M st sn ops R i w K) (∀T,QG K T→WD P G N ops (w.map (UK ops)) R T st sn):=fun h _=>h
theorem Yq(j:Nat){T:Tr AV}(hK:QG K T)(hM:Mem h0 n0 X st M)(hn:g')(h:To (DG P G N h0 n0 X M st sn ops R j w K) g':=by
 repeat' first
  |((first|with_reducible refine' ll ?_ ?_ ?_ ?_);(any_goals exact rfl);(any_goals exact iM);any_goals exact⟨rfl,rfl⟩)
  |((with_reducible refine' iX ?_ ?_ ?_ ?_);(any_goals exact rfl);(any_goals exact iM);any_goals exact⟨rfl,rfl,rfl,rfl⟩)
  |with_reducible exact zt):WD P G N ops (w.map (UK ops)) R T st sn:=h hn hM T hK
end
section
variable {P:Program} {G:Env} {N:Nat} {h0:Hp} {n0:Nat} {X:List Nat} {K:List (Nat×AV)} {M:List (Nat×Nat×List AV)} {ops rest:List Oper} {R:Tr AV→St→Prop} {Q:Ex→Tr AV→St→Prop} {d:Nat} {ty:TypeId} {pos:String} {af:Array Edge} {T:Tr AV} {st:St}
theorem UA{a b:Code}{p:Prop} [Decidable p](hK:QG K T)(hg:QE G K g=some (.bool (decide p)))(ha:p→W P G N a Q T st)(hb: ¬p→W P G N b Q T st):W P G N (.cond g a b) Q T st:=Kg (hK.QI hg) (fun h=>ha (of_decide_eq_true h)) fun h=>hb (of_decide_eq_false h)
theorem iR{a b:Code}{p:Prop} [Decidable p](hK:QG K T)(hg:QE G K g=some (.bool (!decide p)))(ha: ¬p→W P G N a Q T st)(hb:p→W P G N b Q T st):W P G N (.cond g a b) Q T st:=Kg (hK.QI hg) (fun h=>ha (by simpa using h)) fun h=>hb (by simpa using h)
theorem oQ{args:Array Operand}{tys:Array TypeId}{l:List AV}{u:AV}(hK:QG K T)(hM:Mem h0 n0 X st M)(h: ∃v st',Ev P G f l st v st'∧v=u∧Qt st st')(ha:J7 (QE G K) args.toList=some l)(hN:Nat.ble (d+1) N=true)(hn: ∀T' st',QG ((d,u)::K) T'→Mem h0 n0 X st' M→WR P G N ops rest R T' st'):
  WR P G N ops (⟨some d,.call {callee:=.value (.func f),args:=args,argTypes:=tys},ty,pos,af,none⟩::rest) R T st:=by
 obtain⟨v,st',ev,rfl,q⟩:=h;exact o1 hK (Qg ha ev) hN fun T' hK'=>hn T' st' hK' (hM.quiet q)
theorem oR{args:Array Operand}{tys:Array TypeId}{l:List AV}{u:AV}(k:Nat){c m m':Nat}{r r':List AV}(hK:QG K T)(hM:Mem h0 n0 X st M)(h: ∃v st',Ev P G f l st v st'∧v=u∧vo [c] st st'∧Qu st'.h.get c m' r')(hk:M[k]? =some (c,m,r))(ha:J7 (QE G K) args.toList=some l)(hN:Nat.ble (d+1) N=true)(hn: ∀T' st',QG ((d,u)::K) T'→Mem h0 n0 X st' (M.set k (c,m',r'))→WR P G N ops rest R T' st'):
  WR P G N ops (⟨some d,.call {callee:=.value (.func f),args:=args,argTypes:=tys},ty,pos,af,none⟩::rest) R T st:=by
 obtain⟨v,st',ev,rfl,q,w⟩:=h;exact o1 hK (Qg ha ev) hN fun T' hK'=>hn T' st' hK' (hM.yi hk q w)
theorem eY{fn:Func}{c:Code}{N:Nat}{rs:List ResultVar}{args:List AV}{Q:AV→St→Prop}(hs:G.s f=none)(hf:P.funcs[f]? =some fn)(hb:fn.body=some c)(hN:fn.ntmps=N)(hr:fn.results.toList=rs)
 (h: ∀T,(∀t,Up T t=(args[t]?).getD (.tup []))→W P G N c (fun x T st=>(x=.nor∨x=.ret)∧ ∃v,QM P rs T st=some v∧Q v st) T st) (hname:(fn.name== "runtime.NumGoroutine")=false:=by decide) (hl:args.length≤N:=by simp): ∃v st',Ev P G f args st v st'∧Q v st':=vS hs hf hb hN hr hname hl h
theorem rt1{t:Nat}{v:AV}(hK:QG K T)(h:K.lookup t=some v):QM P [.tmp t] T st=some v:=IE (UW hK h)
theorem rt2{t s:Nat}{u v:AV}(hK:QG K T)(h:K.lookup t=some u)(h':K.lookup s=some v):QM P [.tmp t,.tmp s] T st=some (.tup [u,v]):=Yd (UW hK h) (UW hK h')
theorem rtA{a:Nat}{t:TypeId}{l r:List AV} [ht:TA P t n](k:Nat){c m off:Nat}(hK:QG K T)(hM:Mem h0 n0 X st M)(h:K.lookup a=some (.ptr c m off))(hk:M[k]? =some (c,m,l))(hl:V7 n (VR off l) (fun r=>some (AV.agg r))=some (.agg r)):QM P [.cell a t] T st=some (.agg r):=IE (Yc hK h (hM.load hk (Jh ht.h hl)))
theorem l3{op:Op}{p:Prop} [Decidable p](hK:QG K T)(h:Uk P G K op st (.bool (decide p)) st)(hN:Nat.ble (d+1) N=true)(hf: ∀T',¬p→QG ((d,.bool false)::K) T'→WR P G N ops rest R T' st)(ht: ∀T',p→QG ((d,.bool true)::K) T'→WR P G N ops rest R T' st):WR P G N ops (⟨some d,op,ty,pos,af,none⟩::rest) R T st:=oB hK h hN (fun b T' e K'=>by cases b;exact hf T' (of_decide_eq_false e) K';exact ht T' (of_decide_eq_true e) K')
theorem l4{op:Op}{p:Prop} [Decidable p](hK:QG K T)(h:Uk P G K op st (.bool (!decide p)) st)(hN:Nat.ble (d+1) N=true)(hf: ∀T',p→QG ((d,.bool false)::K) T'→WR P G N ops rest R T' st)(ht: ∀T',¬p→QG ((d,.bool true)::K) T'→WR P G N ops rest R T' st):WR P G N ops (⟨some d,op,ty,pos,af,none⟩::rest) R T st:=oB hK h hN (fun b T' e K'=>by cases b;exact hf T' ((by simpa using e)) K';exact ht T' ((by simpa using e)) K')
theorem xe{op:Op}{p:Prop} [Decidable p](hK:QG K T)(hd:Ui ops jj=some tt)(hb:K.lookup tt=some (.bool pol))(h:Uk P G K op st (.bool (decide p)) st)(hN:Nat.ble (d+1) N=true)(hf: ∀T',¬p→QG ((d,.bool false)::K) T'→WR P G N ops rest R T' st)(ht: ∀T',p→QG ((d,.bool true)::K) T'→WR P G N ops rest R T' st):WR P G N ops (⟨some d,op,ty,pos,af,some (jj,pol)⟩::rest) R T st:=kp hK hd hb h hN (fun b T' e K'=>by cases b;exact hf T' (of_decide_eq_false e) K';exact ht T' (of_decide_eq_true e) K')
theorem ly{op:Op}{p:Prop} [Decidable p](hK:QG K T)(hd:Ui ops jj=some tt)(hb:K.lookup tt=some (.bool pol))(h:Uk P G K op st (.bool (!decide p)) st)(hN:Nat.ble (d+1) N=true)(hf: ∀T',p→QG ((d,.bool false)::K) T'→WR P G N ops rest R T' st)(ht: ∀T',¬p→QG ((d,.bool true)::K) T'→WR P G N ops rest R T' st):WR P G N ops (⟨some d,op,ty,pos,af,some (jj,pol)⟩::rest) R T st:=kp hK hd hb h hN (fun b T' e K'=>by cases b;exact hf T' ((by simpa using e)) K';exact ht T' ((by simpa using e)) K')
theorem Uz{x:Operand}{p:Prop} [Decidable p](hK:QG K T)(hx:QE G K x=some (.bool (decide p)))(hf: ∀T',¬p→QG ((d,.bool false)::K) T'→WR P G N ops rest R T' st)(ht: ∀T',p→QG ((d,.bool true)::K) T'→WR P G N ops rest R T' st)(hN:Nat.ble (d+1) N=true:=by exact rfl):WR P G N ops (⟨some d,.move x,ty,pos,af,none⟩::rest) R T st:=l3 hK (Q8 hx) hN hf ht
theorem aW{x:Operand}{p:Prop} [Decidable p](hK:QG K T)(hx:QE G K x=some (.bool (!decide p)))(hf: ∀T',p→QG ((d,.bool false)::K) T'→WR P G N ops rest R T' st)(ht: ∀T',¬p→QG ((d,.bool true)::K) T'→WR P G N ops rest R T' st)(hN:Nat.ble (d+1) N=true:=by exact rfl):WR P G N ops (⟨some d,.move x,ty,pos,af,none⟩::rest) R T st:=l4 hK (Q8 hx) hN hf ht
theorem dBp{op:Op}{p:Prop} [Decidable p](ho:ops[i]? =some (⟨some d,op,ty,pos,af,none⟩))(hK:QG K T)(h:Uk P G K op st (.bool (decide p)) st)(hk:Nat.beq (Qx P op) 3=false)(hN:Nat.ble (d+1) N=true)(hf: ∀T',¬p→QG ((d,.bool false)::K) T'→WD P G N ops (w.map (UK ops)) R T' st sn)(ht: ∀T',p→QG ((d,.bool true)::K) T'→WD P G N ops (w.map (UK ops)) R T' st sn):WD P G N ops (((i,0)::w).map (UK ops)) R T st sn:=dB ho hK h hk hN (fun b T' e K'=>by cases b;exact hf T' (of_decide_eq_false e) K';exact ht T' (of_decide_eq_true e) K')
theorem dBn{op:Op}{p:Prop} [Decidable p](ho:ops[i]? =some (⟨some d,op,ty,pos,af,none⟩))(hK:QG K T)(h:Uk P G K op st (.bool (!decide p)) st)(hk:Nat.beq (Qx P op) 3=false)(hN:Nat.ble (d+1) N=true)(hf: ∀T',p→QG ((d,.bool false)::K) T'→WD P G N ops (w.map (UK ops)) R T' st sn)(ht: ∀T',¬p→QG ((d,.bool true)::K) T'→WD P G N ops (w.map (UK ops)) R T' st sn):WD P G N ops (((i,0)::w).map (UK ops)) R T st sn:=dB ho hK h hk hN (fun b T' e K'=>by cases b;exact hf T' ((by simpa using e)) K';exact ht T' ((by simpa using e)) K')
def aI:Nat→List AV→List (Nat×AV)
 |_,[]=>[]
 |i,v::l=>(i,v)::aI (i+1) l
theorem S8: ∀(l:List AV) (i:Nat),(∀t,i≤t→Up T t=(l[t-i]?).getD (.tup []))→QG (aI i l) T
 |[],_,_=>.nil
 |v::l,i,h=>.cons (by have:=h i (Nat.le_refl _);rwa [Nat.sub_self]at this) (S8 l (i+1) fun t ht=>by
  have:=h t Qe;rw[show t-i=t-(i+1)+1 by omega]at this
  exact this)
theorem Jy{fn:Func}{c:Code}{N:Nat}{args:List AV}{Q:AV→St→Prop}(hf:P.funcs[f]? =some fn)(hN:fn.ntmps=N)
 (h: ∀T,QG (aI 0 args) T→W P G N c (fun x T st=>(x=.nor∨x=.ret)∧ ∃v,QM P fn.results.toList T st=some v∧Q v st) T st) (hs:G.s f=none:=by rfl) (hb:fn.body=some c:=by rfl) (hname:(fn.name== "runtime.NumGoroutine")=false:=by decide) (hl:args.length≤N:=by simp): ∃v st',Ev P G f args st v st'∧Q v st':=vS hs hf hb hN rfl hname hl fun T hT=>h T (S8 args 0 fun t _=>hT t)
theorem oI{x i:Operand}{t:TypeId}{k:IntKind}{v:AV}{z j:Nat}(hR:Jb st.h.get Y z ls ks)(hi:ls[j]? =some cs)(hK:QG K T)(he:JP P t=some z)(ht:tk P t'=.one)(hx:QE G K x=some ks)(hy:QE G K i=some (.int k (j:Int)))(hv:cs[0]? =some v)(hn: ∀c m o T',QG ((d2,v)::(d,.ptr c m o)::K) T'→WR P G N ops rest R T' st)(hN:Nat.ble (d+1) N=true:=by exact rfl)(hN2:Nat.ble (d2+1) N=true:=by exact rfl):WR P G N ops (⟨some d,.indexAddr t x i,ty,pos,af,none⟩::⟨some d2,.load t' (.tmp d),ty2,pos2,af2,none⟩::rest) R T st:=by
 obtain⟨c,m,off,rfl,_,la,lo,_⟩:=hR.load (P:=P) hi;exact o1 hK (Qv he hx hy (List.getElem?_eq_some_iff.1 hi).1) hN fun T' K'=>o1 K' (Qi (show QE G (_::K) (.tmp d)=_ by show List.lookup d _=_;rw[List.lookup_cons];simp) (lo _ 0 _ ht hv)) hN2 fun T'' K''=>hn _ _ _ _ K''
theorem dI{x i:Operand}{t:TypeId}{k:IntKind}{v:AV}{z j:Nat}{i1 i2:Nat}{r:List (Nat×Nat)}(ho:ops[i1]? =some ⟨some d,.indexAddr t x i,ty,pos,af,none⟩)(ho2:ops[i2]? =some ⟨some d2,.load t' (.tmp d),ty2,pos2,af2,none⟩)(hR:Jb st.h.get Y z ls ks)(hi:ls[j]? =some cs)(hK:QG K T)(he:JP P t=some z)(ht:tk P t'=.one)(hx:QE G K x=some ks)(hy:QE G K i=some (.int k (j:Int)))(hv:cs[0]? =some v)(hn: ∀c m o T',QG ((d2,v)::(d,.ptr c m o)::K) T'→WD P G N ops (r.map (UK ops)) R T' st sn)(hN:Nat.ble (d+1) N=true:=by exact rfl)(hN2:Nat.ble (d2+1) N=true:=by exact rfl):WD P G N ops (((i1,0)::(i2,0)::r).map (UK ops)) R T st sn:=by
 obtain⟨c,m,off,rfl,_,la,lo,_⟩:=hR.load (P:=P) hi;exact d1 ho hK (Qv he hx hy (List.getElem?_eq_some_iff.1 hi).1) rfl hN fun T' K'=>d1 ho2 K' (Qi (show QE G (_::K) (.tmp d)=_ by show List.lookup d _=_;rw[List.lookup_cons];simp) (lo _ 0 _ ht hv)) rfl hN2 fun T'' K''=>hn _ _ _ _ K''
theorem fX{x i:Operand}{t:TypeId}{k:IntKind}{z j:Nat}(hR:Jb st.h.get Y z ls ks)(hi:ls[j]? =some cs)(hK:QG K T)(he:JP P t=some z)(ht:tk P t'=.agg z)(hx:QE G K x=some ks)(hy:QE G K i=some (.int k (j:Int)))(hn: ∀c m o T',QG ((d2,.agg cs)::(d,.ptr c m o)::K) T'→WR P G N ops rest R T' st)(hN:Nat.ble (d+1) N=true:=by exact rfl)(hN2:Nat.ble (d2+1) N=true:=by exact rfl):WR P G N ops (⟨some d,.indexAddr t x i,ty,pos,af,none⟩::⟨some d2,.load t' (.tmp d),ty2,pos2,af2,none⟩::rest) R T st:=by
 obtain⟨c,m,off,rfl,_,la,lo,_⟩:=hR.load (P:=P) hi;exact o1 hK (Qv he hx hy (List.getElem?_eq_some_iff.1 hi).1) hN fun T' K'=>o1 K' (Qi (show QE G (_::K) (.tmp d)=_ by show List.lookup d _=_;rw[List.lookup_cons];simp) (la _ ht)) hN2 fun T'' K''=>hn _ _ _ _ K''
theorem dIA{x i:Operand}{t:TypeId}{k:IntKind}{z j:Nat}{i1 i2:Nat}{r:List (Nat×Nat)}(ho:ops[i1]? =some ⟨some d,.indexAddr t x i,ty,pos,af,none⟩)(ho2:ops[i2]? =some ⟨some d2,.load t' (.tmp d),ty2,pos2,af2,none⟩)(hR:Jb st.h.get Y z ls ks)(hi:ls[j]? =some cs)(hK:QG K T)(he:JP P t=some z)(ht:tk P t'=.agg z)(hx:QE G K x=some ks)(hy:QE G K i=some (.int k (j:Int)))(hn: ∀c m o T',QG ((d2,.agg cs)::(d,.ptr c m o)::K) T'→WD P G N ops (r.map (UK ops)) R T' st sn)(hN:Nat.ble (d+1) N=true:=by exact rfl)(hN2:Nat.ble (d2+1) N=true:=by exact rfl):WD P G N ops (((i1,0)::(i2,0)::r).map (UK ops)) R T st sn:=by
 obtain⟨c,m,off,rfl,_,la,lo,_⟩:=hR.load (P:=P) hi;exact d1 ho hK (Qv he hx hy (List.getElem?_eq_some_iff.1 hi).1) rfl hN fun T' K'=>d1 ho2 K' (Qi (show QE G (_::K) (.tmp d)=_ by show List.lookup d _=_;rw[List.lookup_cons];simp) (la _ ht)) rfl hN2 fun T'' K''=>hn _ _ _ _ K''
theorem Ze{a b:Code}{t:Bool}(hK:QG K T)(hg:QE G K g=some (.bool t))(ha:t=true→W P G N a Q T st)(hb:t=false→W P G N b Q T st):W P G N (.cond g a b) Q T st:=Kg (hK.QI hg) ha hb
theorem p1{op:Op}{v:AV}(hK:QG K T)(h:Uk P G K op st v st1)(hn: ∀T',QG ((d,v)::K) T'→WR P G N ops rest R T' st1)(hN:Nat.ble (d+1) N=true:=by exact rfl):WR P G N ops (⟨some d,op,ty,pos,af,none⟩::rest) R T st:=o1 hK h hN hn
theorem pg{j t:Nat}{op:Op}{v:AV}(hK:QG K T)(ht:Ui ops j=some t)(hb:K.lookup t=some (.bool pol))(h:Uk P G K op st v st1)(hn: ∀T',QG ((d,v)::K) T'→WR P G N ops rest R T' st1)(hN:Nat.ble (d+1) N=true:=by exact rfl):WR P G N ops (⟨some d,op,ty,pos,af,some (j,pol)⟩::rest) R T st:=og hK ht hb h hN hn
theorem q1{r:List (Nat×Nat)}{op:Op}{v:AV}(ho:ops[i]? =some ⟨some d,op,ty,pos,af,none⟩)(hK:QG K T)(h:Uk P G K op st v st1)(hn: ∀T',QG ((d,v)::K) T'→WD P G N ops (r.map (UK ops)) R T' st1 sn)(hk:Nat.beq (Qx P op) 3=false:=by exact rfl)(hN:Nat.ble (d+1) N=true:=by exact rfl):WD P G N ops (((i,0)::r).map (UK ops)) R T st sn:=d1 ho hK h hk hN hn
theorem qA{r:List (Nat×Nat)}{op:Op}{v:AV}(ho:ops[i]? =some ⟨some d,op,ty,pos,af,none⟩)(hK:QG K T)(h:Uk P G K op st v st1)(hn: ∀T',QG ((d,v)::K) T'→WD P G N ops (r.map (UK ops)) R T' st1 (st1::sn))(hk:Nat.beq (Qx P op) 3=true:=by exact rfl)(hN:Nat.ble (d+1) N=true:=by exact rfl):WD P G N ops (((i,0)::r).map (UK ops)) R T st sn:=dA ho hK h hk hN hn
end
end Go.Proofs.YtildagdnomiahaaGreatDoor
