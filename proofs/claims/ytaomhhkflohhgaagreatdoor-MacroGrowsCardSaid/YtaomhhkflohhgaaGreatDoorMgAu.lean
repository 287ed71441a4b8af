/-
  Straight runs of operations in one step.
-/
import Derived.Test.YtaomhhkflohhgaaGreatDoorMgTyg
namespace Go.Proofs.YtaomhhkflohhgaaGreatDoor
open Go Go.RowKit
set_option linter.unusedVariables false
set_option linter.unusedSectionVars false
variable {F:Tr AV→St→Prop} {Y:List Nat} {af2:Array Edge} {cs:List AV} {d2 i id jj n t1 tt:Nat} {f:FuncId} {g:Operand} {ks:AV} {ls:List (List AV)} {pol:Bool} {pos2:String} {sn:List St} {st1:St} {t' ty2:TypeId} {w:List (Nat×Nat)}

class FO(P:Program)(t:TypeId)(f:Nat)(o:outParam Nat):Prop where
 h:Jh P t f=some o
class T1(P:Program)(t:TypeId):Prop where
 h:tk P t=.one
class TA(P:Program)(t:TypeId)(n:outParam Nat):Prop where
 h:tk P t=.agg n
class ZE(P:Program)(t:TypeId)(l:outParam (List AV)):Prop where
 h:zeroOf P t=some l
class SZ(P:Program)(t:TypeId)(n:outParam Nat):Prop where
 h:ZG P t=some n
class UL(P:Program)(t:TypeId):Prop where
 h: ∃e,P.underlying t=some (.slice e)
class ST(P:Program)(t:TypeId)(tbl:outParam (List (Nat×Nat)))(z:outParam (List AV)):Prop where
 h:qb P t tbl z
class SL(P:Program)(t:TypeId)(e:outParam TypeId)(z:outParam Nat):Prop where
 h:LL P t e z
instance :FO Tryz.prog 25 0 0:=⟨Hy⟩
instance :FO Tryz.prog 25 1 1:=⟨Gc⟩
instance :FO Tryz.prog 25 2 2:=⟨Gb⟩
instance :FO Tryz.prog 25 3 3:=⟨Ga⟩
instance :FO Tryz.prog 25 4 4:=⟨OZ⟩
instance :FO Tryz.prog 32 0 0:=⟨OU⟩
instance :FO Tryz.prog 32 1 1:=⟨OT⟩
instance :FO Tryz.prog 32 2 2:=⟨OS⟩
instance :FO Tryz.prog 44 0 0:=⟨OY⟩
instance :FO Tryz.prog 44 1 1:=⟨OX⟩
instance :FO Tryz.prog 44 2 2:=⟨OW⟩
instance :FO Tryz.prog 44 3 7:=⟨OV⟩
instance :FO Tryz.prog 117 0 0:=⟨OP⟩
instance :FO Tryz.prog 117 1 1:=⟨OO⟩
instance :FO Tryz.prog 79 0 0:=⟨Gf⟩
instance :FO Tryz.prog 79 1 1:=⟨Ge⟩
instance :FO Tryz.prog 79 2 2:=⟨Gd⟩
instance :FO Tryz.prog 71 0 0:=⟨Oa⟩
instance :FO Tryz.prog 71 1 1:=⟨NZ⟩
instance :FO Tryz.prog 71 2 2:=⟨NY⟩
instance :FO Tryz.prog 71 3 3:=⟨NX⟩
instance :FO Tryz.prog 86 0 0:=⟨AZ⟩
instance :FO Tryz.prog 86 1 1:=⟨AY⟩
instance :FO Tryz.prog 86 2 2:=⟨AX⟩
instance :FO Tryz.prog 86 3 3:=⟨AW⟩
instance :FO Tryz.prog 63 0 0:=⟨AU⟩
instance :FO Tryz.prog 63 1 1:=⟨AT⟩
instance :FO Tryz.prog 63 2 2:=⟨AS⟩
instance :FO Tryz.prog 63 3 3:=⟨AR⟩
instance :FO Tryz.prog 107 0 0:=⟨OR⟩
instance :FO Tryz.prog 107 1 1:=⟨OQ⟩
instance :FO Tryz.prog 55 0 0:=⟨Iq⟩
instance :FO Tryz.prog 42 0 0:=⟨Hm⟩
instance :FO Tryz.prog 42 1 1:=⟨Hl⟩
instance :T1 Tryz.prog 3:=⟨QH⟩
instance :T1 Tryz.prog 9:=⟨J0⟩
instance :T1 Tryz.prog 21:=⟨ID⟩
instance :T1 Tryz.prog 23:=⟨Xt⟩
instance :TA Tryz.prog 25 5:=⟨Qv⟩
instance :T1 Tryz.prog 29:=⟨Yt⟩
instance :T1 Tryz.prog 30:=⟨UB⟩
instance :TA Tryz.prog 32 7:=⟨Ys⟩
instance :TA Tryz.prog 44 8:=⟨V9⟩
instance :T1 Tryz.prog 102:=⟨CB⟩
instance :TA Tryz.prog 117 2:=⟨CA⟩
instance :TA Tryz.prog 79 3:=⟨VA⟩
instance :T1 Tryz.prog 58:=⟨Ff⟩
instance :TA Tryz.prog 71 4:=⟨U2⟩
instance :T1 Tryz.prog 84:=⟨YE⟩
instance :TA Tryz.prog 100 2:=⟨KM⟩
instance :ZE Tryz.prog 3 [.int .i64 0]:=⟨xz⟩
instance :ZE Tryz.prog 5 [.int .u8 0]:=⟨IA⟩
instance :ZE Tryz.prog 9 [.str []]:=⟨EB⟩
instance :ZE Tryz.prog 25 [.str [],.str [],.int .i64 0,.int .i64 0,.nils]:=⟨Jc⟩
instance :ZE Tryz.prog 32 [.nils,.nils,.str [],.str [],.int .i64 0,.int .i64 0,.nils]:=⟨Lj⟩
instance :ZE Tryz.prog 44 [.str [],.nils,.str [],.str [],.int .i64 0,.int .i64 0,.nils,.int .i64 0]:=⟨ZA⟩
instance :ZE Tryz.prog 117 [.nils,.nils]:=⟨Li⟩
instance :ZE Tryz.prog 79 [.str [],.int .i64 0,.int .i64 0]:=⟨V5⟩
instance :ZE Tryz.prog 71 [.int .i64 0,.str [],.int .i64 0,.int .i64 0]:=⟨XS⟩
instance :ZE Tryz.prog 86 [.str [],.nils,.int .i64 0,.int .i64 0]:=⟨VX⟩
instance :ZE Tryz.prog 63 [.nils,.int .i64 0,.int .i64 0,.int .i64 0]:=⟨VW⟩
instance :ZE Tryz.prog 55 [.nils]:=⟨EC⟩
instance :ZE Tryz.prog 42 [.nils,.int .i64 0]:=⟨Ej⟩
instance :ZE Tryz.prog 100 [.int .i64 0,.int .i64 0]:=⟨Wr⟩
instance :SZ Tryz.prog 3 1:=⟨BA⟩
instance :SZ Tryz.prog 9 1:=⟨Gv⟩
instance :SZ Tryz.prog 23 1:=⟨YF⟩
instance :SZ Tryz.prog 25 5:=⟨Qi⟩
instance :SZ Tryz.prog 29 1:=⟨Vy⟩
instance :SZ Tryz.prog 30 1:=⟨Xu⟩
instance :SZ Tryz.prog 32 7:=⟨UY⟩
instance :SZ Tryz.prog 44 8:=⟨VB⟩
instance :SZ Tryz.prog 102 1:=⟨Fi⟩
instance :SZ Tryz.prog 117 2:=⟨Fh⟩
instance :SZ Tryz.prog 79 3:=⟨CH⟩
instance :SZ Tryz.prog 71 4:=⟨Ai⟩
instance :SZ Tryz.prog 84 1:=⟨Hs⟩
instance :SZ Tryz.prog 100 2:=⟨Tq⟩
instance :UL Tryz.prog 23:=⟨_,QI⟩
instance :ST Tryz.prog 25 [(0,1),(1,1),(2,1),(3,1),(4,1)] [.str [],.str [],.int .i64 0,.int .i64 0,.nils]:=⟨Fk⟩
instance :UL Tryz.prog 29:=⟨_,Ux⟩
instance :UL Tryz.prog 30:=⟨_,Xs⟩
instance :ST Tryz.prog 32 [(0,1),(1,1),(2,5)] [.nils,.nils,.str [],.str [],.int .i64 0,.int .i64 0,.nils]:=⟨CK⟩
instance :ST Tryz.prog 44 [(0,1),(1,1),(2,5),(7,1)] [.str [],.nils,.str [],.str [],.int .i64 0,.int .i64 0,.nils,.int .i64 0]:=⟨CL⟩
instance :UL Tryz.prog 102:=⟨_,XG⟩
instance :ST Tryz.prog 117 [(0,1),(1,1)] [.nils,.nils]:=⟨Ln⟩
instance :ST Tryz.prog 79 [(0,1),(1,1),(2,1)] [.str [],.int .i64 0,.int .i64 0]:=⟨CM⟩
instance :UL Tryz.prog 58:=⟨_,W2⟩
instance :ST Tryz.prog 71 [(0,1),(1,1),(2,1),(3,1)] [.int .i64 0,.str [],.int .i64 0,.int .i64 0]:=⟨BF⟩
instance :UL Tryz.prog 84:=⟨_,YD⟩
instance :ST Tryz.prog 86 [(0,1),(1,1),(2,1),(3,1)] [.str [],.nils,.int .i64 0,.int .i64 0]:=⟨Hj⟩
instance :ST Tryz.prog 63 [(0,1),(1,1),(2,1),(3,1)] [.nils,.int .i64 0,.int .i64 0,.int .i64 0]:=⟨VZ⟩
instance :UL Tryz.prog 22:=⟨_,ZB⟩
instance :SL Tryz.prog 23 25 5:=⟨QC⟩
instance :SL Tryz.prog 29 79 3:=⟨JZ⟩
instance :SL Tryz.prog 30 44 8:=⟨UU⟩
instance :SL Tryz.prog 102 9 1:=⟨UI⟩
instance :SL Tryz.prog 58 71 4:=⟨W7⟩
instance :SL Tryz.prog 22 5 1:=⟨HP⟩
instance :ST Tryz.prog 55 [(0,1)] [.nils]:=⟨KN⟩
instance :ST Tryz.prog 42 [(0,1),(1,1)] [.nils,.int .i64 0]:=⟨IH⟩
abbrev iZ(z:Int):AV:=.int .i64 z
abbrev iN(n:Nat):AV:=.int .i64 n
def SG(j:Nat)(q:St→Prop)(h0:Hp)(n0:Nat)(X:List Nat)(K:List (Nat×AV))(M:List (Nat×Nat×List AV))(F:Tr AV→St→Prop):Prop:= ∀T st,Jr K T→q st→Mem h0 n0 X st M→F T st
def To(g g':Prop):Prop:=g'→g
structure PO(P:Program)(G:Env)(h0:Hp)(n0:Nat)(X:List Nat)(K:List (Nat×AV))(M:List (Nat×Nat×List AV))(op:Op)(v:AV):Prop where
 h: ∀st,Mem h0 n0 X st M→YK P G K op st v st
section
variable {j:Nat} {q:St→Prop} {P:Program} {G:Env} {N:Nat} {h0:Hp} {n0:Nat} {X:List Nat} {K:List (Nat×AV)} {M:List (Nat×Nat×List AV)} {g':Prop} {ops rest:List Oper} {R:Tr AV→St→Prop} {Q:Ex→Tr AV→St→Prop} {d:Nat} {ty:TypeId} {pos:String} {af:Array Edge} {st:St} {op:Op} {u v:AV} {x y:Operand} {t yt:TypeId} {k:IntKind} {a b:Int} {r l:List AV} {c m off:Nat} {A B:Bool} {tys:Array TypeId} {s z:List Nat}
theorem xO(h:JF G K x=some v):PO P G h0 n0 X K M (.move x) (v):=⟨fun _ hM=>Q9 h⟩
theorem ji(h:JF G K x=some v):PO P G h0 n0 X K M (.assign x) (v):=⟨fun _ hM=>JH h⟩
theorem HY [ht:T1 P t](i:Nat)(h:JF G K x=some (.ptr c m off))(h1:M[i]? =some (c,m,l))(h2:nth l off=some v):PO P G h0 n0 X K M (.load t x) v:=⟨fun _ hM=>QW h (hM.load h1 (Qj ht.h h2))⟩
theorem Aq [ht:TA P t n](i:Nat)(h:JF G K x=some (.ptr c m off))(h1:M[i]? =some (c,m,l))(h2:AH n (AL off l) (fun r=>some (AV.agg r))=some (.agg r)):PO P G h0 n0 X K M (.load t x) (.agg r):=⟨fun _ hM=>QW h (hM.load h1 (QA ht.h h2))⟩
theorem wk{f o:Nat} [ho:FO P t f o](h:JF G K x=some (.ptr c m off)):PO P G h0 n0 X K M (.fieldAddr t x f) (.ptr c m (off+o)):=⟨fun _ hM=>IU ho.h h⟩
theorem xN(h:JF G K x=some (.ptr c m off)):PO P G h0 n0 X K M (.nilCheck x) (.ptr c m off):=⟨fun _ hM=>xS h rfl⟩
theorem wm(h:JF G K x=some (.tup l))(h':nth l i=some v):PO P G h0 n0 X K M (.extract x i) (v):=⟨fun _ hM=>Ia h h'⟩
theorem xM{w1 w2:Operand}(h:JF G K x=some (.bool A))(h1:JF G K w1=some u)(h2:JF G K w2=some v):PO P G h0 n0 X K M (.pick x w1 w2) (Qp A u v):=⟨fun _ hM=>yZ h h1 h2⟩
theorem wa(h:JF G K x=some (.bool A)):PO P G h0 n0 X K M (.unOp .not t x) (.bool (!A)):=⟨fun _ hM=>xR h⟩
theorem wg(h:JF G K x=some (.int k a))(h':JF G K y=some (.int k b)):PO P G h0 n0 X K M (.binOp .lss t x y yt) (.bool (decide (a<b))):=⟨fun _ hM=>Rf h h'⟩
theorem wi(h:JF G K x=some (.int k a))(h':JF G K y=some (.int k b)):PO P G h0 n0 X K M (.binOp .gtr t x y yt) (.bool (decide (b<a))):=⟨fun _ hM=>xW h h'⟩
theorem wh(h:JF G K x=some (.int k a))(h':JF G K y=some (.int k b)):PO P G h0 n0 X K M (.binOp .leq t x y yt) (.bool (decide (a≤b))):=⟨fun _ hM=>xV h h'⟩
theorem wj(h:JF G K x=some (.int k a))(h':JF G K y=some (.int k b)):PO P G h0 n0 X K M (.binOp .geq t x y yt) (.bool (decide (b≤a))):=⟨fun _ hM=>N5 h h'⟩
theorem wq(h:JF G K x=some (.int k a))(h':JF G K y=some (.int k b)):PO P G h0 n0 X K M (.binOp .eql t x y yt) (.bool (decide (a=b))):=⟨fun _ hM=>xX h h'⟩
theorem we(h:JF G K x=some (.int k a))(h':JF G K y=some (.int k b)):PO P G h0 n0 X K M (.binOp .neq t x y yt) (.bool (!decide (a=b))):=⟨fun _ hM=>xT h h'⟩
theorem wo(h:JF G K x=some (.str s))(h':JF G K y=some (.str z)):PO P G h0 n0 X K M (.binOp .eql t x y yt) (.bool (decide (s=z))):=⟨fun _ hM=>QU h h'⟩
theorem wb(h:JF G K x=some (.str s))(h':JF G K y=some (.str z)):PO P G h0 n0 X K M (.binOp .neq t x y yt) (.bool (!decide (s=z))):=⟨fun _ hM=>VS h h'⟩
theorem wu(h:JF G K x=some (.int .i64 a))(h':JF G K y=some (.int .i64 b))(h1: -9223372036854775808≤a+b)(h2:a+b≤9223372036854775807):PO P G h0 n0 X K M (.binOp .add t x y yt) (.int .i64 (a+b)):=⟨fun _ _=>jq h h' h1 h2⟩
theorem vZ(h:JF G K x=some (.int .i64 a))(h':JF G K y=some (.int .i64 b))(h1: -9223372036854775808≤a-b)(h2:a-b≤9223372036854775807):PO P G h0 n0 X K M (.binOp .sub t x y yt) (.int .i64 (a-b)):=⟨fun _ _=>xQ h h' h1 h2⟩
theorem xP [hu:UL P t](h:JF G K x=some u)(h':XI u=some n):PO P G h0 n0 X K M (.call {callee:=.builtin .len,args:= #[x],argTypes:= #[t]}) (.int .i64 (n:Int)):=⟨fun _ _=>by obtain⟨e,hu⟩:=hu.h;exact Jg hu rfl h h'⟩
theorem yY{parts:Array (Nat×Operand)}{ps:List (Nat×AV)}{tbl:List (Nat×Nat)}{zz:List AV} [hs:ST P t tbl zz](h:Xn (JF G K) parts=some ps)(h':VH (nth tbl) ps zz=some r):PO P G h0 n0 X K M (.build t parts) (.agg r):=⟨fun _ hM=>Fx hs.h h h'⟩
theorem qx{k:Tr AV→St→Prop}(h:To (SG j q h0 n0 X K M (k)) g'):To (SG j q h0 n0 X K M (Nj k Q .nor)) g':=h
theorem xf(h:To (SG j q h0 n0 X K M (Q .nor)) g'):To (SG j q h0 n0 X K M (Cs id Q .nor)) g':=h
theorem xc{a b:Code}(h:To (SG j q h0 n0 X K M (W P G N (a) (Nj (W P G N b Q) Q))) g'):To (SG j q h0 n0 X K M (W P G N (.seq a b) Q)) g':=fun h' T st hK hq hM=>UR (h h' T st hK hq hM)
theorem Sc{c:Code}(h:To (SG j q h0 n0 X K M (W P G N (c) (Cs id Q))) g'):To (SG j q h0 n0 X K M (W P G N (.block id c) Q)) g':=fun h' T st hK hq hM=>Wh (h h' T st hK hq hM)
theorem qy(h:To (SG j q h0 n0 X K M (Q .nor)) g'):To (SG j q h0 n0 X K M (W P G N (.skip) Q)) g':=fun h' T st hK hq hM=>JM (h h' T st hK hq hM)
theorem Sb{l:Nat}(h:To (SG j q h0 n0 X K M (Q .nor)) g'):To (SG j q h0 n0 X K M (W P G N (.label l) Q)) g':=fun h' T st hK hq hM=>yB (h h' T st hK hq hM)
theorem CF{l:List Oper}(h:To (SG j q h0 n0 X K M (WR P G N l l (Q .nor))) g'):To (SG j q h0 n0 X K M (W P G N (.region id l.toArray false) Q)) g':=fun h' T st hK hq hM=>Uf (h h' T st hK hq hM)
theorem xd(h:To (SG j q h0 n0 X K M (R)) g'):To (SG j q h0 n0 X K M (WR P G N ops [] R)) g':=fun h' T st hK hq hM=>Y5 (h h' T st hK hq hM)
theorem vT{a b:Code}(hg:JF G K g=some (.bool true))(h:To (SG j q h0 n0 X K M (W P G N (a) Q)) g'):To (SG (j+1) q h0 n0 X K M (W P G N (.cond g a b) Q)) g':=fun h' T st hK hq hM=>Zz (hK.Ug hg) (fun _=>h h' T st hK hq hM) (fun e=>by cases e)
theorem vU{a b:Code}(hg:JF G K g=some (.bool false))(h:To (SG j q h0 n0 X K M (W P G N (b) Q)) g'):To (SG (j+1) q h0 n0 X K M (W P G N (.cond g a b) Q)) g':=fun h' T st hK hq hM=>Zz (hK.Ug hg) (fun e=>by cases e) (fun _=>h h' T st hK hq hM)
theorem eS(hp:PO P G h0 n0 X K M op v)(hN:Nat.ble (d+1) N=true)(h:To (SG j q h0 n0 X ((d,v)::K) M (WR P G N ops rest R)) g'):To (SG (j+1) q h0 n0 X K M (WR P G N ops (⟨some d,op,ty,pos,af,none⟩::rest) R)) g':=fun h' T st hK hq hM=>o1 hK (hp.h st hM) hN fun T' hK'=>h h' T' st hK' hq hM
theorem eT(hp:PO P G h0 n0 X K M op v)(hh:YY ops jj=some tt∧K.lookup tt=some (.bool pol)∧Nat.ble (d+1) N=true)(h:To (SG j q h0 n0 X ((d,v)::K) M (WR P G N ops rest R)) g'):To (SG (j+1) q h0 n0 X K M (WR P G N ops (⟨some d,op,ty,pos,af,some (jj,pol)⟩::rest) R)) g':=fun h' T st hK hq hM=>og hK hh.1 hh.2.1 (hp.h st hM) hh.2.2 fun T' hK'=>h h' T' st hK' hq hM
theorem vS(hh:YY ops jj=some tt∧K.lookup tt=some (.bool A)∧(A==pol)=false∧Nat.ble (d+1) N=true)(h:To (SG j q h0 n0 X ((d,.tup [])::K) M (WR P G N ops rest R)) g'):To (SG (j+1) q h0 n0 X K M (WR P G N ops (⟨some d,op,ty,pos,af,some (jj,pol)⟩::rest) R)) g':=fun h' T st hK hq hM=>gn hK hh.1 hh.2.1 hh.2.2.1 hh.2.2.2 fun T' hK'=>h h' T' st hK' hq hM
theorem xe(hh:YY ops jj=some tt∧K.lookup tt=some (.tup [])∧Nat.ble (d+1) N=true)(h:To (SG j q h0 n0 X ((d,.tup [])::K) M (WR P G N ops rest R)) g'):To (SG (j+1) q h0 n0 X K M (WR P G N ops (⟨some d,op,ty,pos,af,some (jj,pol)⟩::rest) R)) g':=fun h' T st hK hq hM=>al hK hh.1 hh.2.1 hh.2.2 fun T' hK'=>h h' T' st hK' hq hM
theorem Ah [hz:SZ P t n](i:Nat){r':List AV}(hh:JF G K x=some (.ptr c m off)∧JF G K y=some v∧M[i]? =some (c,m,r)∧(JE v).length=n∧Ea Jl (JE v)=true∧Xv (JE v) off r=some r')(h:To (SG j (fun _=>True) h0 n0 X K (M.set i (c,m,r')) (WR P G N ops rest R)) g'):To (SG (j+1) (fun _=>True) h0 n0 X K M (WR P G N ops (⟨none,.store t x y,ty,pos,af,none⟩::rest) R)) g':=fun h' T st hK _ hM=>Qz (k:=i) hK hM hh.1 hh.2.1 hh.2.2.1 hz.h hh.2.2.2.1 hh.2.2.2.2.1 hh.2.2.2.2.2 fun st' hM'=>h h' T st' hK trivial hM'
theorem yK{g:Nat→Prop} [hz:ZE P t l](hN:Nat.ble (d+1) N=true)(h: ∀c,To (SG j (fun _=>True) h0 n0 X ((d,.ptr c 0 0)::K) ((c,0,l)::M) (WR P G N ops rest R)) (g c)):To (SG (j+1) (fun _=>True) h0 n0 X K M (WR P G N ops (⟨some d,.alloc t,ty,pos,af,none⟩::rest) R)) (∀c,g c):=fun h' T st hK _ hM=>C4 hK hM hz.h (Nat.le_of_ble_eq_true hN) fun c T' st' hK' hM'=>h c (h' c) T' st' hK' trivial hM'
theorem vV{g:Nat→Prop}(hh:JF G K x=some v∧Nat.ble (d+1) N=true)(hc:True→Ea Jl (JE v)=true)(h: ∀c,To (SG j (fun _=>True) h0 n0 X ((d,.ptr c 0 0)::K) ((c,0,JE v)::M) (WR P G N ops rest R)) (g c)):To (SG (j+1) (fun _=>True) h0 n0 X K M (WR P G N ops (⟨some d,.box t x,ty,pos,af,none⟩::rest) R)) (∀c,g c):=fun h' T st hK _ hM=>J3 hK hM hh.1 (hc trivial) (Nat.le_of_ble_eq_true hh.2) fun c T' st' hK' hM'=>h c (h' c) T' st' hK' trivial hM'
theorem eE{g:Nat→Prop}{e:TypeId}{len w:Nat}{parts:Array (Nat×Operand)}{ps:List (Nat×AV)} [hs:SL P t e w] [hz:ZE P e l](hh:Xn (JF G K) parts=some ps∧VH (fun i=>some (i *w,w)) ps (Ee len l)=some r∧Ea Jl r=true∧Nat.ble (len *w) 16777216=true∧Nat.ble (d+1) N=true)(h: ∀c,To (SG j (fun _=>True) h0 n0 X ((d,.sl c 0 0 len w)::K) ((c,0,r)::M) (WR P G N ops rest R)) (g c)):To (SG (j+1) (fun _=>True) h0 n0 X K M (WR P G N ops (⟨some d,.buildSlice t len parts,ty,pos,af,none⟩::rest) R)) (∀c,g c):=fun h' T st hK _ hM=>Fb hK hM hs.h hz.h hh.1 hh.2.1 hh.2.2.1 hh.2.2.2.1 hh.2.2.2.2 fun c T' st' hK' hM'=>h c (h' c) T' st' hK' trivial hM'
theorem xC{g:Prop}:To g g:=id
theorem yI:To (SG j (fun s=>s=st) h0 n0 X K M (F)) (∀T,Jr K T→F T st):=fun h T _ hK hq hM=>hq▸h T hK
theorem e9{k:Tr AV→St→Prop}(h:To (SG j q h0 n0 X K M (W P G N (.ret) Q)) g'):To (SG j q h0 n0 X K M (W P G N (.ret) (Nj k Q))) g':=fun h' T st hK hq hM=>Jv (by have h2:=h h' T st hK hq hM;obtain⟨L,n,x,T',st',h3,h4⟩:=h2;injection h3 with h3;injection h3 with h5 h6;injection h6 with h6 h7;subst h5 h6 h7;exact h4)
theorem eA(h:To (SG j q h0 n0 X K M (W P G N (.ret) Q)) g'):To (SG j q h0 n0 X K M (W P G N (.ret) (Cs id Q))) g':=fun h' T st hK hq hM=>Jv (by have h2:=h h' T st hK hq hM;obtain⟨L,n,x,T',st',h3,h4⟩:=h2;injection h3 with h3;injection h3 with h5 h6;injection h6 with h6 h7;subst h5 h6 h7;exact h4)
theorem eC{Z:AV→St→Prop}{rs:List ResultVar}(hr:rs=[.tmp t1])(hh:K.lookup t1=some v):To (SG j (fun s=>s=st) h0 n0 X K M (W P G N (.ret) (fun x T s=>(x=.nor∨x=.ret)∧ ∃v,JS P rs T s=some v∧Z v s))) (Z v st):=fun h' T s hK hq hM=>Jv ⟨.inr rfl,_,by rw[hr];exact Am (QF hK hh),by subst hq;exact h'⟩
theorem eB{t2:Nat}{Z:AV→St→Prop}{rs:List ResultVar}(hr:rs=[.tmp t1,.tmp t2])(hh:K.lookup t1=some u∧K.lookup t2=some v):To (SG j (fun s=>s=st) h0 n0 X K M (W P G N (.ret) (fun x T s=>(x=.nor∨x=.ret)∧ ∃v,JS P rs T s=some v∧Z v s))) (Z (.tup [u,v]) st):=fun h' T s hK hq hM=>Jv ⟨.inr rfl,_,by rw[hr];exact U8 (QF hK hh.1) (QF hK hh.2),by subst hq;exact h'⟩
theorem xB{Z:AV→St→Prop}{rs:List ResultVar}(i:Nat)(ht:TA P t n)(hr:rs=[.cell t1 t])(hh:K.lookup t1=some (.ptr c m off)∧M[i]? =some (c,m,l)∧AH n (AL off l) (fun r=>some (AV.agg r))=some (.agg r)):To (SG j (fun s=>s=st) h0 n0 X K M (W P G N (.ret) (fun x T s=>(x=.nor∨x=.ret)∧ ∃v,JS P rs T s=some v∧Z v s))) (Z (.agg r) st):=fun h' T s hK hq hM=>Jv ⟨.inr rfl,_,by rw[hr];exact Am (JC hK hh.1 (hM.load hh.2.1 (QA ht.h hh.2.2))),by subst hq;exact h'⟩
theorem eh(h:PO P G h0 n0 X K M op v:=by first|(apply xO<;>exact rfl)|(apply ji<;>exact rfl)|(apply HY 0<;>exact rfl)|(apply HY 1<;>exact rfl)|(apply HY 2<;>exact rfl)|(apply HY 3<;>exact rfl)|(apply HY 4<;>exact rfl)|(apply HY 5<;>exact rfl)|(apply HY 6<;>exact rfl)|(apply Aq 0<;>exact rfl)|(apply Aq 1<;>exact rfl)|(apply Aq 2<;>exact rfl)|(apply Aq 3<;>exact rfl)|(apply Aq 4<;>exact rfl)|(apply Aq 5<;>exact rfl)|(apply Aq 6<;>exact rfl)|(apply wk<;>exact rfl)|(apply xN<;>exact rfl)|(apply wm<;>exact rfl)|(apply xM<;>exact rfl)|(apply wa<;>exact rfl)|(apply wg<;>exact rfl)|(apply wi<;>exact rfl)|(apply wh<;>exact rfl)|(apply wj<;>exact rfl)|(apply wq<;>exact rfl)|(apply we<;>exact rfl)|(apply wo<;>exact rfl)|(apply wb<;>exact rfl)|(apply wu;exact rfl;exact rfl;omega;omega)|(apply vZ;exact rfl;exact rfl;omega;omega)|(apply xP<;>exact rfl)|(apply yY<;>exact rfl)):PO P G h0 n0 X K M op v:=h
theorem au(j:Nat){T:Tr AV}{st:St}(hK:Jr K T)(hM:Mem h0 n0 X st M)(hn:g')(h:To (SG j (fun _=>True) h0 n0 X K M (F)) g':=by
 repeat' first
  |with_reducible refine' qx ?_
  |with_reducible refine' xf ?_
  |with_reducible refine' xc ?_
  |with_reducible refine' xd ?_
  |with_reducible refine' Sc ?_
  |with_reducible refine' qy ?_
  |with_reducible refine' Sb ?_
  |with_reducible refine' CF ?_
  |((first|with_reducible refine' eS ?_ ?_ ?_|with_reducible refine' eT ?_ ?_ ?_);(any_goals exact eh);any_goals first|exact rfl|exact⟨rfl,rfl,rfl⟩)
  |((with_reducible refine' vS ?_ ?_);any_goals exact⟨rfl,rfl,rfl,rfl⟩)
  |((with_reducible refine' xe ?_ ?_);any_goals exact⟨rfl,rfl,rfl⟩)
  |((with_reducible refine' vT ?_ ?_);any_goals exact rfl)
  |((with_reducible refine' vU ?_ ?_);any_goals exact rfl)
  |((with_reducible refine' Ah 0 ?_ ?_);any_goals exact⟨rfl,rfl,rfl,rfl,rfl,rfl⟩)
  |((with_reducible refine' Ah 1 ?_ ?_);any_goals exact⟨rfl,rfl,rfl,rfl,rfl,rfl⟩)
  |((with_reducible refine' Ah 2 ?_ ?_);any_goals exact⟨rfl,rfl,rfl,rfl,rfl,rfl⟩)
  |((with_reducible refine' Ah 3 ?_ ?_);any_goals exact⟨rfl,rfl,rfl,rfl,rfl,rfl⟩)
  |((with_reducible refine' Ah 4 ?_ ?_);any_goals exact⟨rfl,rfl,rfl,rfl,rfl,rfl⟩)
  |((with_reducible refine' Ah 5 ?_ ?_);any_goals exact⟨rfl,rfl,rfl,rfl,rfl,rfl⟩)
  |((with_reducible refine' Ah 6 ?_ ?_);any_goals exact⟨rfl,rfl,rfl,rfl,rfl,rfl⟩)
  |((with_reducible refine' yK ?_ fun _=>?_);any_goals exact rfl)
  |((with_reducible refine' eE ?_ fun _=>?_);any_goals exact⟨rfl,rfl,rfl,rfl,rfl⟩)
  |((with_reducible refine' vV ?_ ?_ fun _=>?_);(any_goals exact⟨rfl,rfl⟩);any_goals(intro(_:True);(repeat first|exact rfl|assumption|refine Qa ?_ ?_);done))
  |with_reducible exact xC):F T st:=h hn T st hK trivial hM
theorem Qc(j:Nat){T:Tr AV}{st:St}(hK:Jr K T)(hM:Mem h0 n0 X st M)(hn:g')(h:To (SG j (fun s=>s=st) h0 n0 X K M (F)) g':=by
 repeat' first
  |with_reducible refine' qx ?_
  |with_reducible refine' xf ?_
  |with_reducible refine' xc ?_
  |with_reducible refine' xd ?_
  |with_reducible refine' Sc ?_
  |with_reducible refine' qy ?_
  |with_reducible refine' Sb ?_
  |with_reducible refine' CF ?_
  |((first|with_reducible refine' eS ?_ ?_ ?_|with_reducible refine' eT ?_ ?_ ?_);(any_goals exact eh);any_goals first|exact rfl|exact⟨rfl,rfl,rfl⟩)
  |((with_reducible refine' vS ?_ ?_);any_goals exact⟨rfl,rfl,rfl,rfl⟩)
  |((with_reducible refine' xe ?_ ?_);any_goals exact⟨rfl,rfl,rfl⟩)
  |((with_reducible refine' vT ?_ ?_);any_goals exact rfl)
  |((with_reducible refine' vU ?_ ?_);any_goals exact rfl)
  |with_reducible refine' e9 ?_
  |with_reducible refine' eA ?_
  |((with_reducible refine' eC ?_ ?_);any_goals exact rfl)
  |((with_reducible refine' eB ?_ ?_);(any_goals exact rfl);any_goals exact⟨rfl,rfl⟩)
  |((with_reducible refine' xB 0 ?_ ?_ ?_);(any_goals exact rfl);(any_goals infer_instance);any_goals exact⟨rfl,rfl,rfl⟩)
  |((with_reducible refine' xB 1 ?_ ?_ ?_);(any_goals exact rfl);(any_goals infer_instance);any_goals exact⟨rfl,rfl,rfl⟩)
  |((with_reducible refine' xB 2 ?_ ?_ ?_);(any_goals exact rfl);(any_goals infer_instance);any_goals exact⟨rfl,rfl,rfl⟩)
  |with_reducible exact yI):F T st:=h hn T st hK rfl hM
def DG(P:Program)(G:Env)(N:Nat)(h0:Hp)(n0:Nat)(X:List Nat)(M:List (Nat×Nat×List AV))(st:St)(sn:List St)(ops:List Oper)(R:Tr AV→St→Prop)(j:Nat)(w:List (Nat×Nat))(K:List (Nat×AV)):Prop:=Mem h0 n0 X st M→ ∀T,Jr K T→WD P G N ops (w.map (Xm ops)) R T st sn
theorem eZ(ho:ops[i]? =some (⟨some d,op,ty,pos,af,none⟩))(hp:PO P G h0 n0 X K M op v)(hh:Nat.beq (QP P op) 3=false∧Nat.ble (d+1) N=true)(h:To (DG P G N h0 n0 X M st sn ops R j w ((d,v)::K)) g'):To (DG P G N h0 n0 X M st sn ops R (j+1) ((i,0)::w) K) g':=fun h' hM T hK=>d1 ho hK (hp.h st hM) hh.1 hh.2 fun T' hK'=>h h' hM T' hK'
theorem eD(ho:ops[i]? =some (⟨some d,op,ty,pos,af,some (jj,pol)⟩))(hp:PO P G h0 n0 X K M op v)(hh:YY ops jj=some tt∧K.lookup tt=some (.bool pol)∧Nat.beq (QP P op) 3=false∧Nat.ble (d+1) N=true)(h:To (DG P G N h0 n0 X M st sn ops R j w ((d,v)::K)) g'):To (DG P G N h0 n0 X M st sn ops R (j+1) ((i,0)::w) K) g':=fun h' hM T hK=>dg ho hK hh.1 hh.2.1 (hp.h st hM) hh.2.2.1 hh.2.2.2 fun T' hK'=>h h' hM T' hK'
theorem yJ:To (DG P G N h0 n0 X M st sn ops R i w K) (∀T,Jr K T→WD P G N ops (w.map (Xm ops)) R T st sn):=fun h _=>h
theorem Ui(j:Nat){T:Tr AV}(hK:Jr K T)(hM:Mem h0 n0 X st M)(hn:g')(h:To (DG P G N h0 n0 X M st sn ops R j w K) g':=by
 repeat' first
  |((first|with_reducible refine' eZ ?_ ?_ ?_ ?_);(any_goals exact rfl);(any_goals exact eh);any_goals exact⟨rfl,rfl⟩)
  |((with_reducible refine' eD ?_ ?_ ?_ ?_);(any_goals exact rfl);(any_goals exact eh);any_goals exact⟨rfl,rfl,rfl,rfl⟩)
  |with_reducible exact yJ):WD P G N ops (w.map (Xm ops)) R T st sn:=h hn hM T hK
end
section
variable {P:Program} {G:Env} {N:Nat} {h0:Hp} {n0:Nat} {X:List Nat} {K:List (Nat×AV)} {M:List (Nat×Nat×List AV)} {ops rest:List Oper} {R:Tr AV→St→Prop} {Q:Ex→Tr AV→St→Prop} {d:Nat} {ty:TypeId} {pos:String} {af:Array Edge} {T:Tr AV} {st:St}
theorem Xj{a b:Code}{p:Prop} [Decidable p](hK:Jr K T)(hg:JF G K g=some (.bool (decide p)))(ha:p→W P G N a Q T st)(hb: ¬p→W P G N b Q T st):W P G N (.cond g a b) Q T st:=Zz (hK.Ug hg) (fun h=>ha (of_decide_eq_true h)) fun h=>hb (of_decide_eq_false h)
theorem C5{a b:Code}{p:Prop} [Decidable p](hK:Jr K T)(hg:JF G K g=some (.bool (!decide p)))(ha: ¬p→W P G N a Q T st)(hb:p→W P G N b Q T st):W P G N (.cond g a b) Q T st:=Zz (hK.Ug hg) (fun h=>ha (by simpa using h)) fun h=>hb (by simpa using h)
theorem oQ{args:Array Operand}{tys:Array TypeId}{l:List AV}{u:AV}(hK:Jr K T)(hM:Mem h0 n0 X st M)(h: ∃v st',Ev P G f l st v st'∧v=u∧Qt st st')(ha:UZ (JF G K) args.toList=some l)(hN:Nat.ble (d+1) N=true)(hn: ∀T' st',Jr ((d,u)::K) T'→Mem h0 n0 X st' M→WR P G N ops rest R T' st'):
  WR P G N ops (⟨some d,.call {callee:=.value (.func f),args:=args,argTypes:=tys},ty,pos,af,none⟩::rest) R T st:=by
 obtain⟨v,st',ev,rfl,q⟩:=h;exact o1 hK (Qe ha ev) hN fun T' hK'=>hn T' st' hK' (hM.quiet q)
theorem oR{args:Array Operand}{tys:Array TypeId}{l:List AV}{u:AV}(k:Nat){c m m':Nat}{r r':List AV}(hK:Jr K T)(hM:Mem h0 n0 X st M)(h: ∃v st',Ev P G f l st v st'∧v=u∧Ad [c] st st'∧Jj st'.h.get c m' r')(hk:M[k]? =some (c,m,r))(ha:UZ (JF G K) args.toList=some l)(hN:Nat.ble (d+1) N=true)(hn: ∀T' st',Jr ((d,u)::K) T'→Mem h0 n0 X st' (M.set k (c,m',r'))→WR P G N ops rest R T' st'):
  WR P G N ops (⟨some d,.call {callee:=.value (.func f),args:=args,argTypes:=tys},ty,pos,af,none⟩::rest) R T st:=by
 obtain⟨v,st',ev,rfl,q,w⟩:=h;exact o1 hK (Qe ha ev) hN fun T' hK'=>hn T' st' hK' (hM.J8 hk q w)
theorem uC{fn:Func}{c:Code}{N:Nat}{rs:List ResultVar}{args:List AV}{Q:AV→St→Prop}(hs:G.s f=none)(hf:P.funcs[f]? =some fn)(hb:fn.body=some c)(hN:fn.ntmps=N)(hr:fn.results.toList=rs)
 (h: ∀T,(∀t,Zb T t=(args[t]?).getD (.tup []))→W P G N c (fun x T st=>(x=.nor∨x=.ret)∧ ∃v,JS P rs T st=some v∧Q v st) T st) (hname:(fn.name== "runtime.NumGoroutine")=false:=by decide) (hl:args.length≤N:=by simp): ∃v st',Ev P G f args st v st'∧Q v st':=uE hs hf hb hN hr hname hl h
theorem rt1{t:Nat}{v:AV}(hK:Jr K T)(h:K.lookup t=some v):JS P [.tmp t] T st=some v:=Am (QF hK h)
theorem rt2{t s:Nat}{u v:AV}(hK:Jr K T)(h:K.lookup t=some u)(h':K.lookup s=some v):JS P [.tmp t,.tmp s] T st=some (.tup [u,v]):=U8 (QF hK h) (QF hK h')
theorem PN{a:Nat}{t:TypeId}{l r:List AV} [ht:TA P t n](k:Nat){c m off:Nat}(hK:Jr K T)(hM:Mem h0 n0 X st M)(h:K.lookup a=some (.ptr c m off))(hk:M[k]? =some (c,m,l))(hl:AH n (AL off l) (fun r=>some (AV.agg r))=some (.agg r)):JS P [.cell a t] T st=some (.agg r):=Am (JC hK h (hM.load hk (QA ht.h hl)))
theorem ag{op:Op}{p:Prop} [Decidable p](hK:Jr K T)(h:YK P G K op st (.bool (decide p)) st)(hN:Nat.ble (d+1) N=true)(hf: ∀T',¬p→Jr ((d,.bool false)::K) T'→WR P G N ops rest R T' st)(ht: ∀T',p→Jr ((d,.bool true)::K) T'→WR P G N ops rest R T' st):WR P G N ops (⟨some d,op,ty,pos,af,none⟩::rest) R T st:=oB hK h hN (fun b T' e K'=>by cases b;exact hf T' (of_decide_eq_false e) K';exact ht T' (of_decide_eq_true e) K')
theorem ah{op:Op}{p:Prop} [Decidable p](hK:Jr K T)(h:YK P G K op st (.bool (!decide p)) st)(hN:Nat.ble (d+1) N=true)(hf: ∀T',p→Jr ((d,.bool false)::K) T'→WR P G N ops rest R T' st)(ht: ∀T',¬p→Jr ((d,.bool true)::K) T'→WR P G N ops rest R T' st):WR P G N ops (⟨some d,op,ty,pos,af,none⟩::rest) R T st:=oB hK h hN (fun b T' e K'=>by cases b;exact hf T' ((by simpa using e)) K';exact ht T' ((by simpa using e)) K')
theorem eI{op:Op}{p:Prop} [Decidable p](hK:Jr K T)(hd:YY ops jj=some tt)(hb:K.lookup tt=some (.bool pol))(h:YK P G K op st (.bool (decide p)) st)(hN:Nat.ble (d+1) N=true)(hf: ∀T',¬p→Jr ((d,.bool false)::K) T'→WR P G N ops rest R T' st)(ht: ∀T',p→Jr ((d,.bool true)::K) T'→WR P G N ops rest R T' st):WR P G N ops (⟨some d,op,ty,pos,af,some (jj,pol)⟩::rest) R T st:=xl hK hd hb h hN (fun b T' e K'=>by cases b;exact hf T' (of_decide_eq_false e) K';exact ht T' (of_decide_eq_true e) K')
theorem ae{op:Op}{p:Prop} [Decidable p](hK:Jr K T)(hd:YY ops jj=some tt)(hb:K.lookup tt=some (.bool pol))(h:YK P G K op st (.bool (!decide p)) st)(hN:Nat.ble (d+1) N=true)(hf: ∀T',p→Jr ((d,.bool false)::K) T'→WR P G N ops rest R T' st)(ht: ∀T',¬p→Jr ((d,.bool true)::K) T'→WR P G N ops rest R T' st):WR P G N ops (⟨some d,op,ty,pos,af,some (jj,pol)⟩::rest) R T st:=xl hK hd hb h hN (fun b T' e K'=>by cases b;exact hf T' ((by simpa using e)) K';exact ht T' ((by simpa using e)) K')
theorem Eh{x:Operand}{p:Prop} [Decidable p](hK:Jr K T)(hx:JF G K x=some (.bool (decide p)))(hf: ∀T',¬p→Jr ((d,.bool false)::K) T'→WR P G N ops rest R T' st)(ht: ∀T',p→Jr ((d,.bool true)::K) T'→WR P G N ops rest R T' st)(hN:Nat.ble (d+1) N=true:=by exact rfl):WR P G N ops (⟨some d,.move x,ty,pos,af,none⟩::rest) R T st:=ag hK (Q9 hx) hN hf ht
theorem oMn{x:Operand}{p:Prop} [Decidable p](hK:Jr K T)(hx:JF G K x=some (.bool (!decide p)))(hf: ∀T',p→Jr ((d,.bool false)::K) T'→WR P G N ops rest R T' st)(ht: ∀T',¬p→Jr ((d,.bool true)::K) T'→WR P G N ops rest R T' st)(hN:Nat.ble (d+1) N=true:=by exact rfl):WR P G N ops (⟨some d,.move x,ty,pos,af,none⟩::rest) R T st:=ah hK (Q9 hx) hN hf ht
theorem eW{op:Op}{p:Prop} [Decidable p](ho:ops[i]? =some (⟨some d,op,ty,pos,af,none⟩))(hK:Jr K T)(h:YK P G K op st (.bool (decide p)) st)(hk:Nat.beq (QP P op) 3=false)(hN:Nat.ble (d+1) N=true)(hf: ∀T',¬p→Jr ((d,.bool false)::K) T'→WD P G N ops (w.map (Xm ops)) R T' st sn)(ht: ∀T',p→Jr ((d,.bool true)::K) T'→WD P G N ops (w.map (Xm ops)) R T' st sn):WD P G N ops (((i,0)::w).map (Xm ops)) R T st sn:=dB ho hK h hk hN (fun b T' e K'=>by cases b;exact hf T' (of_decide_eq_false e) K';exact ht T' (of_decide_eq_true e) K')
theorem dBn{op:Op}{p:Prop} [Decidable p](ho:ops[i]? =some (⟨some d,op,ty,pos,af,none⟩))(hK:Jr K T)(h:YK P G K op st (.bool (!decide p)) st)(hk:Nat.beq (QP P op) 3=false)(hN:Nat.ble (d+1) N=true)(hf: ∀T',p→Jr ((d,.bool false)::K) T'→WD P G N ops (w.map (Xm ops)) R T' st sn)(ht: ∀T',¬p→Jr ((d,.bool true)::K) T'→WD P G N ops (w.map (Xm ops)) R T' st sn):WD P G N ops (((i,0)::w).map (Xm ops)) R T st sn:=dB ho hK h hk hN (fun b T' e K'=>by cases b;exact hf T' ((by simpa using e)) K';exact ht T' ((by simpa using e)) K')
def vB:Nat→List AV→List (Nat×AV)
 |_,[]=>[]
 |i,v::l=>(i,v)::vB (i+1) l
theorem SX: ∀(l:List AV) (i:Nat),(∀t,i≤t→Zb T t=(l[t-i]?).getD (.tup []))→Jr (vB i l) T
 |[],_,_=>.nil
 |v::l,i,h=>.cons (by have:=h i (Nat.le_refl _);rwa [Nat.sub_self]at this) (SX l (i+1) fun t ht=>by
  have:=h t Qh;rw[show t-i=t-(i+1)+1 by omega]at this
  exact this)
theorem Yu{fn:Func}{c:Code}{N:Nat}{args:List AV}{Q:AV→St→Prop}(hf:P.funcs[f]? =some fn)(hN:fn.ntmps=N)
 (h: ∀T,Jr (vB 0 args) T→W P G N c (fun x T st=>(x=.nor∨x=.ret)∧ ∃v,JS P fn.results.toList T st=some v∧Q v st) T st) (hs:G.s f=none:=by rfl) (hb:fn.body=some c:=by rfl) (hname:(fn.name== "runtime.NumGoroutine")=false:=by decide) (hl:args.length≤N:=by simp): ∃v st',Ev P G f args st v st'∧Q v st':=uE hs hf hb hN rfl hname hl fun T hT=>h T (SX args 0 fun t _=>hT t)
theorem oI{x i:Operand}{t:TypeId}{k:IntKind}{v:AV}{z j:Nat}(hR:QS st.h.get Y z ls ks)(hi:ls[j]? =some cs)(hK:Jr K T)(he:UA P t=some z)(ht:tk P t'=.one)(hx:JF G K x=some ks)(hy:JF G K i=some (.int k (j:Int)))(hv:cs[0]? =some v)(hn: ∀c m o T',Jr ((d2,v)::(d,.ptr c m o)::K) T'→WR P G N ops rest R T' st)(hN:Nat.ble (d+1) N=true:=by exact rfl)(hN2:Nat.ble (d2+1) N=true:=by exact rfl):WR P G N ops (⟨some d,.indexAddr t x i,ty,pos,af,none⟩::⟨some d2,.load t' (.tmp d),ty2,pos2,af2,none⟩::rest) R T st:=by
 obtain⟨c,m,off,rfl,_,la,lo,_⟩:=hR.load (P:=P) hi;exact o1 hK (Q5 he hx hy (List.getElem?_eq_some_iff.1 hi).1) hN fun T' K'=>o1 K' (QW (show JF G (_::K) (.tmp d)=_ by show List.lookup d _=_;rw[List.lookup_cons];simp) (lo _ 0 _ ht hv)) hN2 fun T'' K''=>hn _ _ _ _ K''
theorem dI{x i:Operand}{t:TypeId}{k:IntKind}{v:AV}{z j:Nat}{i1 i2:Nat}{r:List (Nat×Nat)}(ho:ops[i1]? =some ⟨some d,.indexAddr t x i,ty,pos,af,none⟩)(ho2:ops[i2]? =some ⟨some d2,.load t' (.tmp d),ty2,pos2,af2,none⟩)(hR:QS st.h.get Y z ls ks)(hi:ls[j]? =some cs)(hK:Jr K T)(he:UA P t=some z)(ht:tk P t'=.one)(hx:JF G K x=some ks)(hy:JF G K i=some (.int k (j:Int)))(hv:cs[0]? =some v)(hn: ∀c m o T',Jr ((d2,v)::(d,.ptr c m o)::K) T'→WD P G N ops (r.map (Xm ops)) R T' st sn)(hN:Nat.ble (d+1) N=true:=by exact rfl)(hN2:Nat.ble (d2+1) N=true:=by exact rfl):WD P G N ops (((i1,0)::(i2,0)::r).map (Xm ops)) R T st sn:=by
 obtain⟨c,m,off,rfl,_,la,lo,_⟩:=hR.load (P:=P) hi;exact d1 ho hK (Q5 he hx hy (List.getElem?_eq_some_iff.1 hi).1) rfl hN fun T' K'=>d1 ho2 K' (QW (show JF G (_::K) (.tmp d)=_ by show List.lookup d _=_;rw[List.lookup_cons];simp) (lo _ 0 _ ht hv)) rfl hN2 fun T'' K''=>hn _ _ _ _ K''
theorem OJ{x i:Operand}{t:TypeId}{k:IntKind}{z j:Nat}(hR:QS st.h.get Y z ls ks)(hi:ls[j]? =some cs)(hK:Jr K T)(he:UA P t=some z)(ht:tk P t'=.agg z)(hx:JF G K x=some ks)(hy:JF G K i=some (.int k (j:Int)))(hn: ∀c m o T',Jr ((d2,.agg cs)::(d,.ptr c m o)::K) T'→WR P G N ops rest R T' st)(hN:Nat.ble (d+1) N=true:=by exact rfl)(hN2:Nat.ble (d2+1) N=true:=by exact rfl):WR P G N ops (⟨some d,.indexAddr t x i,ty,pos,af,none⟩::⟨some d2,.load t' (.tmp d),ty2,pos2,af2,none⟩::rest) R T st:=by
 obtain⟨c,m,off,rfl,_,la,lo,_⟩:=hR.load (P:=P) hi;exact o1 hK (Q5 he hx hy (List.getElem?_eq_some_iff.1 hi).1) hN fun T' K'=>o1 K' (QW (show JF G (_::K) (.tmp d)=_ by show List.lookup d _=_;rw[List.lookup_cons];simp) (la _ ht)) hN2 fun T'' K''=>hn _ _ _ _ K''
theorem aq{x i:Operand}{t:TypeId}{k:IntKind}{z j:Nat}{i1 i2:Nat}{r:List (Nat×Nat)}(ho:ops[i1]? =some ⟨some d,.indexAddr t x i,ty,pos,af,none⟩)(ho2:ops[i2]? =some ⟨some d2,.load t' (.tmp d),ty2,pos2,af2,none⟩)(hR:QS st.h.get Y z ls ks)(hi:ls[j]? =some cs)(hK:Jr K T)(he:UA P t=some z)(ht:tk P t'=.agg z)(hx:JF G K x=some ks)(hy:JF G K i=some (.int k (j:Int)))(hn: ∀c m o T',Jr ((d2,.agg cs)::(d,.ptr c m o)::K) T'→WD P G N ops (r.map (Xm ops)) R T' st sn)(hN:Nat.ble (d+1) N=true:=by exact rfl)(hN2:Nat.ble (d2+1) N=true:=by exact rfl):WD P G N ops (((i1,0)::(i2,0)::r).map (Xm ops)) R T st sn:=by
 obtain⟨c,m,off,rfl,_,la,lo,_⟩:=hR.load (P:=P) hi;exact d1 ho hK (Q5 he hx hy (List.getElem?_eq_some_iff.1 hi).1) rfl hN fun T' K'=>d1 ho2 K' (QW (show JF G (_::K) (.tmp d)=_ by show List.lookup d _=_;rw[List.lookup_cons];simp) (la _ ht)) rfl hN2 fun T'' K''=>hn _ _ _ _ K''
theorem JU{a b:Code}{t:Bool}(hK:Jr K T)(hg:JF G K g=some (.bool t))(ha:t=true→W P G N a Q T st)(hb:t=false→W P G N b Q T st):W P G N (.cond g a b) Q T st:=Zz (hK.Ug hg) ha hb
theorem p1{op:Op}{v:AV}(hK:Jr K T)(h:YK P G K op st v st1)(hn: ∀T',Jr ((d,v)::K) T'→WR P G N ops rest R T' st1)(hN:Nat.ble (d+1) N=true:=by exact rfl):WR P G N ops (⟨some d,op,ty,pos,af,none⟩::rest) R T st:=o1 hK h hN hn
theorem pg{j t:Nat}{op:Op}{v:AV}(hK:Jr K T)(ht:YY ops j=some t)(hb:K.lookup t=some (.bool pol))(h:YK P G K op st v st1)(hn: ∀T',Jr ((d,v)::K) T'→WR P G N ops rest R T' st1)(hN:Nat.ble (d+1) N=true:=by exact rfl):WR P G N ops (⟨some d,op,ty,pos,af,some (j,pol)⟩::rest) R T st:=og hK ht hb h hN hn
theorem q1{r:List (Nat×Nat)}{op:Op}{v:AV}(ho:ops[i]? =some ⟨some d,op,ty,pos,af,none⟩)(hK:Jr K T)(h:YK P G K op st v st1)(hn: ∀T',Jr ((d,v)::K) T'→WD P G N ops (r.map (Xm ops)) R T' st1 sn)(hk:Nat.beq (QP P op) 3=false:=by exact rfl)(hN:Nat.ble (d+1) N=true:=by exact rfl):WD P G N ops (((i,0)::r).map (Xm ops)) R T st sn:=d1 ho hK h hk hN hn
theorem qA{r:List (Nat×Nat)}{op:Op}{v:AV}(ho:ops[i]? =some ⟨some d,op,ty,pos,af,none⟩)(hK:Jr K T)(h:YK P G K op st v st1)(hn: ∀T',Jr ((d,v)::K) T'→WD P G N ops (r.map (Xm ops)) R T' st1 (st1::sn))(hk:Nat.beq (QP P op) 3=true:=by exact rfl)(hN:Nat.ble (d+1) N=true:=by exact rfl):WD P G N ops (((i,0)::r).map (Xm ops)) R T st sn:=dA ho hK h hk hN hn
end
end Go.Proofs.YtaomhhkflohhgaaGreatDoor
