/-
  Straight runs of operations in one step.
-/
import Derived.Test.YtiknomepbklibaaGreatDoorQhTyc
namespace Go.Proofs.YtiknomepbklibaaGreatDoor
open Go Go.RowKit
set_option linter.unusedVariables false
set_option linter.unusedSectionVars false
variable {F:Tr AV→St→Prop} {Y:List Nat} {af2:Array Edge} {cs:List AV} {d2 i id jj n t1 tt:Nat} {f:FuncId} {g:Operand} {ks:AV} {ls:List (List AV)} {pol:Bool} {pos2:String} {sn:List St} {st1:St} {t' ty2:TypeId} {w:List (Nat×Nat)}

class FO(P:Program)(t:TypeId)(f:Nat)(o:outParam Nat):Prop where
 h:QH P t f=some o
class T1(P:Program)(t:TypeId):Prop where
 h:tk P t=.one
class TA(P:Program)(t:TypeId)(n:outParam Nat):Prop where
 h:tk P t=.agg n
class ZE(P:Program)(t:TypeId)(l:outParam (List AV)):Prop where
 h:zeroOf P t=some l
class SZ(P:Program)(t:TypeId)(n:outParam Nat):Prop where
 h:YM P t=some n
class UL(P:Program)(t:TypeId):Prop where
 h: ∃e,P.underlying t=some (.slice e)
class ST(P:Program)(t:TypeId)(tbl:outParam (List (Nat×Nat)))(z:outParam (List AV)):Prop where
 h:PH P t tbl z
class SL(P:Program)(t:TypeId)(e:outParam TypeId)(z:outParam Nat):Prop where
 h:Ho P t e z
instance :FO Tryz.prog 44 0 0:=⟨OX⟩
instance :FO Tryz.prog 44 1 1:=⟨OW⟩
instance :FO Tryz.prog 44 2 2:=⟨OV⟩
instance :FO Tryz.prog 44 3 3:=⟨OU⟩
instance :FO Tryz.prog 44 4 4:=⟨OT⟩
instance :FO Tryz.prog 44 5 5:=⟨OS⟩
instance :FO Tryz.prog 25 0 0:=⟨Ga⟩
instance :FO Tryz.prog 25 1 1:=⟨OZ⟩
instance :FO Tryz.prog 25 2 2:=⟨OY⟩
instance :FO Tryz.prog 65 0 0:=⟨IS⟩
instance :FO Tryz.prog 65 1 1:=⟨IQ⟩
instance :FO Tryz.prog 71 0 0:=⟨KW⟩
instance :FO Tryz.prog 71 1 1:=⟨KV⟩
instance :FO Tryz.prog 77 0 0:=⟨A4⟩
instance :FO Tryz.prog 77 1 1:=⟨A3⟩
instance :FO Tryz.prog 86 0 0:=⟨OR⟩
instance :FO Tryz.prog 86 1 1:=⟨OQ⟩
instance :FO Tryz.prog 86 2 2:=⟨OP⟩
instance :FO Tryz.prog 105 0 0:=⟨EN⟩
instance :FO Tryz.prog 105 1 1:=⟨EM⟩
instance :FO Tryz.prog 109 0 0:=⟨Ws⟩
instance :FO Tryz.prog 109 1 1:=⟨Wr⟩
instance :FO Tryz.prog 109 2 2:=⟨Wq⟩
instance :FO Tryz.prog 125 0 0:=⟨NL⟩
instance :FO Tryz.prog 125 1 1:=⟨NK⟩
instance :FO Tryz.prog 125 2 2:=⟨NJ⟩
instance :FO Tryz.prog 164 0 0:=⟨Lf⟩
instance :FO Tryz.prog 164 1 1:=⟨Le⟩
instance :FO Tryz.prog 164 2 2:=⟨Ld⟩
instance :FO Tryz.prog 175 0 0:=⟨KZ⟩
instance :FO Tryz.prog 175 1 1:=⟨KY⟩
instance :FO Tryz.prog 175 2 2:=⟨KX⟩
instance :FO Tryz.prog 181 0 0:=⟨Ii⟩
instance :FO Tryz.prog 181 1 1:=⟨Ih⟩
instance :FO Tryz.prog 181 2 2:=⟨Ig⟩
instance :FO Tryz.prog 193 0 0:=⟨OL⟩
instance :FO Tryz.prog 195 0 0:=⟨OO⟩
instance :FO Tryz.prog 195 1 1:=⟨ON⟩
instance :FO Tryz.prog 195 2 2:=⟨OM⟩
instance :FO Tryz.prog 211 0 0:=⟨Lc⟩
instance :FO Tryz.prog 211 1 1:=⟨Lb⟩
instance :FO Tryz.prog 211 2 2:=⟨La⟩
instance :T1 Tryz.prog 22:=⟨Um⟩
instance :TA Tryz.prog 25 3:=⟨Jk⟩
instance :T1 Tryz.prog 27:=⟨I6⟩
instance :T1 Tryz.prog 29:=⟨UG⟩
instance :T1 Tryz.prog 36:=⟨Xm⟩
instance :TA Tryz.prog 77 2:=⟨Vz⟩
instance :T1 Tryz.prog 84:=⟨JK⟩
instance :T1 Tryz.prog 122:=⟨UF⟩
instance :T1 Tryz.prog 123:=⟨H3⟩
instance :T1 Tryz.prog 132:=⟨YV⟩
instance :TA Tryz.prog 168 3:=⟨Md⟩
instance :T1 Tryz.prog 172:=⟨Zy⟩
instance :T1 Tryz.prog 173:=⟨EU⟩
instance :TA Tryz.prog 181 3:=⟨Jr⟩
instance :ZE Tryz.prog 25 [.int .i64 0,.nils,.nils]:=⟨Y7⟩
instance :ZE Tryz.prog 29 [.nilp]:=⟨F8⟩
instance :ZE Tryz.prog 65 [.int .i64 0,.bool false]:=⟨EP⟩
instance :ZE Tryz.prog 71 [.nilp,.nilp]:=⟨F5⟩
instance :ZE Tryz.prog 77 [.int .i64 0,.int .i64 0]:=⟨Z3⟩
instance :ZE Tryz.prog 86 [.nils,.nils,.nilp]:=⟨Km⟩
instance :ZE Tryz.prog 105 [.int .i64 0,.bool false]:=⟨XW⟩
instance :ZE Tryz.prog 109 [.nilp,.bool false,.bool false]:=⟨ZR⟩
instance :ZE Tryz.prog 125 [.int .i64 0,.nils,.nilm]:=⟨Hw⟩
instance :ZE Tryz.prog 132 [.nili]:=⟨ER⟩
instance :ZE Tryz.prog 164 [.int .i64 0,.bool false,.int .i64 0]:=⟨Wh⟩
instance :ZE Tryz.prog 168 [.int .i64 0,.int .i64 0,.int .i64 0]:=⟨Gk⟩
instance :ZE Tryz.prog 175 [.nilm,.nils,.nilp]:=⟨F6⟩
instance :ZE Tryz.prog 181 [.nilf,.int .i64 0,.int .i64 0]:=⟨EB⟩
instance :ZE Tryz.prog 193 [.int .i64 0]:=⟨Kk⟩
instance :ZE Tryz.prog 195 [.int .i64 0,.int .i64 0,.int .i64 0]:=⟨Kl⟩
instance :ZE Tryz.prog 211 [.nilp,.nilf,.nilm]:=⟨F7⟩
instance :T1 Tryz.prog 3:=⟨Qn⟩
instance :T1 Tryz.prog 4:=⟨J7⟩
instance :T1 Tryz.prog 9:=⟨I5⟩
instance :T1 Tryz.prog 42:=⟨O8⟩
instance :TA Tryz.prog 44 6:=⟨Jg⟩
instance :TA Tryz.prog 177 2:=⟨Gp⟩
instance :T1 Tryz.prog 54:=⟨Jb⟩
instance :ZE Tryz.prog 3 [.int .i64 0]:=⟨XL⟩
instance :ZE Tryz.prog 4 [.bool false]:=⟨Vd⟩
instance :ZE Tryz.prog 9 [.str []]:=⟨Gj⟩
instance :ZE Tryz.prog 44 [.str [],.int .i64 0,.int .i64 0,.int .i64 0,.int .i64 0,.nils]:=⟨CF⟩
instance :ZE Tryz.prog 177 [.int .i64 0,.int .i64 0]:=⟨ZI⟩
instance :ZE Tryz.prog 54 [.nils]:=⟨Uu⟩
instance :SZ Tryz.prog 22 1:=⟨UH⟩
instance :SZ Tryz.prog 25 3:=⟨QA⟩
instance :SZ Tryz.prog 122 1:=⟨FE⟩
instance :SZ Tryz.prog 164 3:=⟨FC⟩
instance :SZ Tryz.prog 168 3:=⟨Mf⟩
instance :SZ Tryz.prog 173 1:=⟨Kp⟩
instance :SZ Tryz.prog 181 3:=⟨KQ⟩
instance :SZ Tryz.prog 195 3:=⟨CP⟩
instance :SZ Tryz.prog 3 1:=⟨I7⟩
instance :SZ Tryz.prog 4 1:=⟨AR⟩
instance :SZ Tryz.prog 44 6:=⟨ZJ⟩
instance :SZ Tryz.prog 177 2:=⟨Mg⟩
instance :SZ Tryz.prog 54 1:=⟨CQ⟩
instance :UL Tryz.prog 142:=⟨_,Kn⟩
instance :SL Tryz.prog 142 9 1:=⟨CZ⟩
instance :UL Tryz.prog 42:=⟨_,JY⟩
instance :UL Tryz.prog 54:=⟨_,Ja⟩
instance :SL Tryz.prog 54 3 1:=⟨QJ⟩
instance :UL Tryz.prog 22:=⟨_,Yc⟩
instance :ST Tryz.prog 25 [(0,1),(1,1),(2,1)] [.int .i64 0,.nils,.nils]:=⟨VT⟩
instance :ST Tryz.prog 65 [(0,1),(1,1)] [.int .i64 0,.bool false]:=⟨LQ⟩
instance :ST Tryz.prog 71 [(0,1),(1,1)] [.nilp,.nilp]:=⟨O9⟩
instance :ST Tryz.prog 77 [(0,1),(1,1)] [.int .i64 0,.int .i64 0]:=⟨FQ⟩
instance :UL Tryz.prog 78:=⟨_,Ul⟩
instance :ST Tryz.prog 86 [(0,1),(1,1),(2,1)] [.nils,.nils,.nilp]:=⟨Kr⟩
instance :ST Tryz.prog 105 [(0,1),(1,1)] [.int .i64 0,.bool false]:=⟨Fu⟩
instance :ST Tryz.prog 109 [(0,1),(1,1),(2,1)] [.nilp,.bool false,.bool false]:=⟨Ei⟩
instance :UL Tryz.prog 111:=⟨_,ED⟩
instance :UL Tryz.prog 122:=⟨_,Xz⟩
instance :ST Tryz.prog 125 [(0,1),(1,1),(2,1)] [.int .i64 0,.nils,.nilm]:=⟨By⟩
instance :ST Tryz.prog 164 [(0,1),(1,1),(2,1)] [.int .i64 0,.bool false,.int .i64 0]:=⟨OC⟩
instance :UL Tryz.prog 173:=⟨_,X8⟩
instance :ST Tryz.prog 175 [(0,1),(1,1),(2,1)] [.nilm,.nils,.nilp]:=⟨OA⟩
instance :ST Tryz.prog 181 [(0,1),(1,1),(2,1)] [.nilf,.int .i64 0,.int .i64 0]:=⟨KR⟩
instance :ST Tryz.prog 193 [(0,1)] [.int .i64 0]:=⟨CV⟩
instance :ST Tryz.prog 195 [(0,1),(1,1),(2,1)] [.int .i64 0,.int .i64 0,.int .i64 0]:=⟨CW⟩
instance :ST Tryz.prog 211 [(0,1),(1,1),(2,1)] [.nilp,.nilf,.nilm]:=⟨OB⟩
instance :SL Tryz.prog 22 4 1:=⟨J4⟩
instance :SL Tryz.prog 78 77 2:=⟨XA⟩
instance :SL Tryz.prog 111 29 1:=⟨YD⟩
instance :SL Tryz.prog 122 132 1:=⟨Wl⟩
instance :SL Tryz.prog 173 177 2:=⟨EX⟩
abbrev iZ(z:Int):AV:=.int .i64 z
abbrev iN(n:Nat):AV:=.int .i64 n
def SG(j:Nat)(q:St→Prop)(h0:Hp)(n0:Nat)(X:List Nat)(K:List (Nat×AV))(M:List (Nat×Nat×List AV))(F:Tr AV→St→Prop):Prop:= ∀T st,QT K T→q st→Mem h0 n0 X st M→F T st
def To(g g':Prop):Prop:=g'→g
structure PO(P:Program)(G:Env)(h0:Hp)(n0:Nat)(X:List Nat)(K:List (Nat×AV))(M:List (Nat×Nat×List AV))(op:Op)(v:AV):Prop where
 h: ∀st,Mem h0 n0 X st M→U3 P G K op st v st
section
variable {j:Nat} {q:St→Prop} {P:Program} {G:Env} {N:Nat} {h0:Hp} {n0:Nat} {X:List Nat} {K:List (Nat×AV)} {M:List (Nat×Nat×List AV)} {g':Prop} {ops rest:List Oper} {R:Tr AV→St→Prop} {Q:Ex→Tr AV→St→Prop} {d:Nat} {ty:TypeId} {pos:String} {af:Array Edge} {st:St} {op:Op} {u v:AV} {x y:Operand} {t yt:TypeId} {k:IntKind} {a b:Int} {r l:List AV} {c m off:Nat} {A B:Bool} {tys:Array TypeId} {s z:List Nat}
theorem BH(h:QV G K x=some v):PO P G h0 n0 X K M (.move x) (v):=⟨fun _ hM=>Q0 h⟩
theorem HM(h:QV G K x=some v):PO P G h0 n0 X K M (.assign x) (v):=⟨fun _ hM=>JW h⟩
theorem Ut [ht:T1 P t](i:Nat)(h:QV G K x=some (.ptr c m off))(h1:M[i]? =some (c,m,l))(h2:nth l off=some v):PO P G h0 n0 X K M (.load t x) v:=⟨fun _ hM=>Qf h (hM.load h1 (Qd ht.h h2))⟩
theorem JJ [ht:TA P t n](i:Nat)(h:QV G K x=some (.ptr c m off))(h1:M[i]? =some (c,m,l))(h2:EF n (EI off l) (fun r=>some (AV.agg r))=some (.agg r)):PO P G h0 n0 X K M (.load t x) (.agg r):=⟨fun _ hM=>Qf h (hM.load h1 (QN ht.h h2))⟩
theorem Tg{f o:Nat} [ho:FO P t f o](h:QV G K x=some (.ptr c m off)):PO P G h0 n0 X K M (.fieldAddr t x f) (.ptr c m (off+o)):=⟨fun _ hM=>Yg ho.h h⟩
theorem BG(h:QV G K x=some (.ptr c m off)):PO P G h0 n0 X K M (.nilCheck x) (.ptr c m off):=⟨fun _ hM=>wO h rfl⟩
theorem Th(h:QV G K x=some (.tup l))(h':nth l i=some v):PO P G h0 n0 X K M (.extract x i) (v):=⟨fun _ hM=>R4 h h'⟩
theorem BF{w1 w2:Operand}(h:QV G K x=some (.bool A))(h1:QV G K w1=some u)(h2:QV G K w2=some v):PO P G h0 n0 X K M (.pick x w1 w2) (Qj A u v):=⟨fun _ hM=>xE h h1 h2⟩
theorem SX(h:QV G K x=some (.bool A)):PO P G h0 n0 X K M (.unOp .not t x) (.bool (!A)):=⟨fun _ hM=>Nt h⟩
theorem Tb(h:QV G K x=some (.int k a))(h':QV G K y=some (.int k b)):PO P G h0 n0 X K M (.binOp .lss t x y yt) (.bool (decide (a<b))):=⟨fun _ hM=>uf h h'⟩
theorem Td(h:QV G K x=some (.int k a))(h':QV G K y=some (.int k b)):PO P G h0 n0 X K M (.binOp .gtr t x y yt) (.bool (decide (b<a))):=⟨fun _ hM=>wR h h'⟩
theorem Tc(h:QV G K x=some (.int k a))(h':QV G K y=some (.int k b)):PO P G h0 n0 X K M (.binOp .leq t x y yt) (.bool (decide (a≤b))):=⟨fun _ hM=>wQ h h'⟩
theorem Te(h:QV G K x=some (.int k a))(h':QV G K y=some (.int k b)):PO P G h0 n0 X K M (.binOp .geq t x y yt) (.bool (decide (b≤a))):=⟨fun _ hM=>wT h h'⟩
theorem Tj(h:QV G K x=some (.int k a))(h':QV G K y=some (.int k b)):PO P G h0 n0 X K M (.binOp .eql t x y yt) (.bool (decide (a=b))):=⟨fun _ hM=>uh h h'⟩
theorem Ta(h:QV G K x=some (.int k a))(h':QV G K y=some (.int k b)):PO P G h0 n0 X K M (.binOp .neq t x y yt) (.bool (!decide (a=b))):=⟨fun _ hM=>R2 h h'⟩
theorem Ti(h:QV G K x=some (.str s))(h':QV G K y=some (.str z)):PO P G h0 n0 X K M (.binOp .eql t x y yt) (.bool (decide (s=z))):=⟨fun _ hM=>QU h h'⟩
theorem SY(h:QV G K x=some (.str s))(h':QV G K y=some (.str z)):PO P G h0 n0 X K M (.binOp .neq t x y yt) (.bool (!decide (s=z))):=⟨fun _ hM=>ID h h'⟩
theorem Tl(h:QV G K x=some (.int .i64 a))(h':QV G K y=some (.int .i64 b))(h1: -9223372036854775808≤a+b)(h2:a+b≤9223372036854775807):PO P G h0 n0 X K M (.binOp .add t x y yt) (.int .i64 (a+b)):=⟨fun _ _=>wU h h' h1 h2⟩
theorem SW(h:QV G K x=some (.int .i64 a))(h':QV G K y=some (.int .i64 b))(h1: -9223372036854775808≤a-b)(h2:a-b≤9223372036854775807):PO P G h0 n0 X K M (.binOp .sub t x y yt) (.int .i64 (a-b)):=⟨fun _ _=>ua h h' h1 h2⟩
theorem BI [hu:UL P t](h:QV G K x=some u)(h':YE u=some n):PO P G h0 n0 X K M (.call {callee:=.builtin .len,args:= #[x],argTypes:= #[t]}) (.int .i64 (n:Int)):=⟨fun _ _=>by obtain⟨e,hu⟩:=hu.h;exact Q5 hu rfl h h'⟩
theorem Lq{parts:Array (Nat×Operand)}{ps:List (Nat×AV)}{tbl:List (Nat×Nat)}{zz:List AV} [hs:ST P t tbl zz](h:Zp (QV G K) parts=some ps)(h':XH (nth tbl) ps zz=some r):PO P G h0 n0 X K M (.build t parts) (.agg r):=⟨fun _ hM=>WJ hs.h h h'⟩
theorem jm{k:Tr AV→St→Prop}(h:To (SG j q h0 n0 X K M (k)) g'):To (SG j q h0 n0 X K M (LM k Q .nor)) g':=h
theorem vV(h:To (SG j q h0 n0 X K M (Q .nor)) g'):To (SG j q h0 n0 X K M (Cy id Q .nor)) g':=h
theorem vS{a b:Code}(h:To (SG j q h0 n0 X K M (W P G N (a) (LM (W P G N b Q) Q))) g'):To (SG j q h0 n0 X K M (W P G N (.seq a b) Q)) g':=fun h' T st hK hq hM=>Jz (h h' T st hK hq hM)
theorem SI{c:Code}(h:To (SG j q h0 n0 X K M (W P G N (c) (Cy id Q))) g'):To (SG j q h0 n0 X K M (W P G N (.block id c) Q)) g':=fun h' T st hK hq hM=>Bo (h h' T st hK hq hM)
theorem jn(h:To (SG j q h0 n0 X K M (Q .nor)) g'):To (SG j q h0 n0 X K M (W P G N (.skip) Q)) g':=fun h' T st hK hq hM=>PS (h h' T st hK hq hM)
theorem SH{l:Nat}(h:To (SG j q h0 n0 X K M (Q .nor)) g'):To (SG j q h0 n0 X K M (W P G N (.label l) Q)) g':=fun h' T st hK hq hM=>zS (h h' T st hK hq hM)
theorem CO{l:List Oper}(h:To (SG j q h0 n0 X K M (WR P G N l l (Q .nor))) g'):To (SG j q h0 n0 X K M (W P G N (.region id l.toArray false) Q)) g':=fun h' T st hK hq hM=>W7 (h h' T st hK hq hM)
theorem vT(h:To (SG j q h0 n0 X K M (R)) g'):To (SG j q h0 n0 X K M (WR P G N ops [] R)) g':=fun h' T st hK hq hM=>XM (h h' T st hK hq hM)
theorem aO{a b:Code}(hg:QV G K g=some (.bool true))(h:To (SG j q h0 n0 X K M (W P G N (a) Q)) g'):To (SG (j+1) q h0 n0 X K M (W P G N (.cond g a b) Q)) g':=fun h' T st hK hq hM=>Qp (hK.QG hg) (fun _=>h h' T st hK hq hM) (fun e=>by cases e)
theorem aP{a b:Code}(hg:QV G K g=some (.bool false))(h:To (SG j q h0 n0 X K M (W P G N (b) Q)) g'):To (SG (j+1) q h0 n0 X K M (W P G N (.cond g a b) Q)) g':=fun h' T st hK hq hM=>Qp (hK.QG hg) (fun e=>by cases e) (fun _=>h h' T st hK hq hM)
theorem hZ(hp:PO P G h0 n0 X K M op v)(hN:Nat.ble (d+1) N=true)(h:To (SG j q h0 n0 X ((d,v)::K) M (WR P G N ops rest R)) g'):To (SG (j+1) q h0 n0 X K M (WR P G N ops (⟨some d,op,ty,pos,af,none⟩::rest) R)) g':=fun h' T st hK hq hM=>o1 hK (hp.h st hM) hN fun T' hK'=>h h' T' st hK' hq hM
theorem ia(hp:PO P G h0 n0 X K M op v)(hh:Yj ops jj=some tt∧K.lookup tt=some (.bool pol)∧Nat.ble (d+1) N=true)(h:To (SG j q h0 n0 X ((d,v)::K) M (WR P G N ops rest R)) g'):To (SG (j+1) q h0 n0 X K M (WR P G N ops (⟨some d,op,ty,pos,af,some (jj,pol)⟩::rest) R)) g':=fun h' T st hK hq hM=>og hK hh.1 hh.2.1 (hp.h st hM) hh.2.2 fun T' hK'=>h h' T' st hK' hq hM
theorem aN(hh:Yj ops jj=some tt∧K.lookup tt=some (.bool A)∧(A==pol)=false∧Nat.ble (d+1) N=true)(h:To (SG j q h0 n0 X ((d,.tup [])::K) M (WR P G N ops rest R)) g'):To (SG (j+1) q h0 n0 X K M (WR P G N ops (⟨some d,op,ty,pos,af,some (jj,pol)⟩::rest) R)) g':=fun h' T st hK hq hM=>gn hK hh.1 hh.2.1 hh.2.2.1 hh.2.2.2 fun T' hK'=>h h' T' st hK' hq hM
theorem vU(hh:Yj ops jj=some tt∧K.lookup tt=some (.tup [])∧Nat.ble (d+1) N=true)(h:To (SG j q h0 n0 X ((d,.tup [])::K) M (WR P G N ops rest R)) g'):To (SG (j+1) q h0 n0 X K M (WR P G N ops (⟨some d,op,ty,pos,af,some (jj,pol)⟩::rest) R)) g':=fun h' T st hK hq hM=>iz hK hh.1 hh.2.1 hh.2.2 fun T' hK'=>h h' T' st hK' hq hM
theorem Eg [hz:SZ P t n](i:Nat){r':List AV}(hh:QV G K x=some (.ptr c m off)∧QV G K y=some v∧M[i]? =some (c,m,r)∧(Jp v).length=n∧Vr Qs (Jp v)=true∧Zn (Jp v) off r=some r')(h:To (SG j (fun _=>True) h0 n0 X K (M.set i (c,m,r')) (WR P G N ops rest R)) g'):To (SG (j+1) (fun _=>True) h0 n0 X K M (WR P G N ops (⟨none,.store t x y,ty,pos,af,none⟩::rest) R)) g':=fun h' T st hK _ hM=>QW (k:=i) hK hM hh.1 hh.2.1 hh.2.2.1 hz.h hh.2.2.2.1 hh.2.2.2.2.1 hh.2.2.2.2.2 fun st' hM'=>h h' T st' hK trivial hM'
theorem xi{g:Nat→Prop} [hz:ZE P t l](hN:Nat.ble (d+1) N=true)(h: ∀c,To (SG j (fun _=>True) h0 n0 X ((d,.ptr c 0 0)::K) ((c,0,l)::M) (WR P G N ops rest R)) (g c)):To (SG (j+1) (fun _=>True) h0 n0 X K M (WR P G N ops (⟨some d,.alloc t,ty,pos,af,none⟩::rest) R)) (∀c,g c):=fun h' T st hK _ hM=>LD hK hM hz.h (Nat.le_of_ble_eq_true hN) fun c T' st' hK' hM'=>h c (h' c) T' st' hK' trivial hM'
theorem aQ{g:Nat→Prop}(hh:QV G K x=some v∧Nat.ble (d+1) N=true)(hc:True→Vr Qs (Jp v)=true)(h: ∀c,To (SG j (fun _=>True) h0 n0 X ((d,.ptr c 0 0)::K) ((c,0,Jp v)::M) (WR P G N ops rest R)) (g c)):To (SG (j+1) (fun _=>True) h0 n0 X K M (WR P G N ops (⟨some d,.box t x,ty,pos,af,none⟩::rest) R)) (∀c,g c):=fun h' T st hK _ hM=>Ju hK hM hh.1 (hc trivial) (Nat.le_of_ble_eq_true hh.2) fun c T' st' hK' hM'=>h c (h' c) T' st' hK' trivial hM'
theorem fM{g:Nat→Prop}{e:TypeId}{len w:Nat}{parts:Array (Nat×Operand)}{ps:List (Nat×AV)} [hs:SL P t e w] [hz:ZE P e l](hh:Zp (QV G K) parts=some ps∧XH (fun i=>some (i *w,w)) ps (Vk len l)=some r∧Vr Qs r=true∧Nat.ble (len *w) 16777216=true∧Nat.ble (d+1) N=true)(h: ∀c,To (SG j (fun _=>True) h0 n0 X ((d,.sl c 0 0 len w)::K) ((c,0,r)::M) (WR P G N ops rest R)) (g c)):To (SG (j+1) (fun _=>True) h0 n0 X K M (WR P G N ops (⟨some d,.buildSlice t len parts,ty,pos,af,none⟩::rest) R)) (∀c,g c):=fun h' T st hK _ hM=>X5 hK hM hs.h hz.h hh.1 hh.2.1 hh.2.2.1 hh.2.2.2.1 hh.2.2.2.2 fun c T' st' hK' hM'=>h c (h' c) T' st' hK' trivial hM'
theorem wE{g:Prop}:To g g:=id
theorem xg:To (SG j (fun s=>s=st) h0 n0 X K M (F)) (∀T,QT K T→F T st):=fun h T _ hK hq hM=>hq▸h T hK
theorem fH{k:Tr AV→St→Prop}(h:To (SG j q h0 n0 X K M (W P G N (.ret) Q)) g'):To (SG j q h0 n0 X K M (W P G N (.ret) (LM k Q))) g':=fun h' T st hK hq hM=>Jw (by have h2:=h h' T st hK hq hM;obtain⟨L,n,x,T',st',h3,h4⟩:=h2;injection h3 with h3;injection h3 with h5 h6;injection h6 with h6 h7;subst h5 h6 h7;exact h4)
theorem fI(h:To (SG j q h0 n0 X K M (W P G N (.ret) Q)) g'):To (SG j q h0 n0 X K M (W P G N (.ret) (Cy id Q))) g':=fun h' T st hK hq hM=>Jw (by have h2:=h h' T st hK hq hM;obtain⟨L,n,x,T',st',h3,h4⟩:=h2;injection h3 with h3;injection h3 with h5 h6;injection h6 with h6 h7;subst h5 h6 h7;exact h4)
theorem fK{Z:AV→St→Prop}{rs:List ResultVar}(hr:rs=[.tmp t1])(hh:K.lookup t1=some v):To (SG j (fun s=>s=st) h0 n0 X K M (W P G N (.ret) (fun x T s=>(x=.nor∨x=.ret)∧ ∃v,J8 P rs T s=some v∧Z v s))) (Z v st):=fun h' T s hK hq hM=>Jw ⟨.inr rfl,_,by rw[hr];exact Lo (Q6 hK hh),by subst hq;exact h'⟩
theorem fJ{t2:Nat}{Z:AV→St→Prop}{rs:List ResultVar}(hr:rs=[.tmp t1,.tmp t2])(hh:K.lookup t1=some u∧K.lookup t2=some v):To (SG j (fun s=>s=st) h0 n0 X K M (W P G N (.ret) (fun x T s=>(x=.nor∨x=.ret)∧ ∃v,J8 P rs T s=some v∧Z v s))) (Z (.tup [u,v]) st):=fun h' T s hK hq hM=>Jw ⟨.inr rfl,_,by rw[hr];exact Ud (Q6 hK hh.1) (Q6 hK hh.2),by subst hq;exact h'⟩
theorem wD{Z:AV→St→Prop}{rs:List ResultVar}(i:Nat)(ht:TA P t n)(hr:rs=[.cell t1 t])(hh:K.lookup t1=some (.ptr c m off)∧M[i]? =some (c,m,l)∧EF n (EI off l) (fun r=>some (AV.agg r))=some (.agg r)):To (SG j (fun s=>s=st) h0 n0 X K M (W P G N (.ret) (fun x T s=>(x=.nor∨x=.ret)∧ ∃v,J8 P rs T s=some v∧Z v s))) (Z (.agg r) st):=fun h' T s hK hq hM=>Jw ⟨.inr rfl,_,by rw[hr];exact Lo (JG hK hh.1 (hM.load hh.2.1 (QN ht.h hh.2.2))),by subst hq;exact h'⟩
theorem au(j:Nat){T:Tr AV}{st:St}(hK:QT K T)(hM:Mem h0 n0 X st M)(hn:g')(h:To (SG j (fun _=>True) h0 n0 X K M (F)) g':=by
 repeat' first
  |with_reducible refine' jm ?_
  |with_reducible refine' vV ?_
  |with_reducible refine' vS ?_
  |with_reducible refine' vT ?_
  |with_reducible refine' SI ?_
  |with_reducible refine' jn ?_
  |with_reducible refine' SH ?_
  |with_reducible refine' CO ?_
  |((first|with_reducible refine' hZ ?_ ?_ ?_|with_reducible refine' ia ?_ ?_ ?_);(any_goals(first|(apply BH<;>exact rfl)|(apply HM<;>exact rfl)|(apply Ut 0<;>exact rfl)|(apply Ut 1<;>exact rfl)|(apply Ut 2<;>exact rfl)|(apply Ut 3<;>exact rfl)|(apply Ut 4<;>exact rfl)|(apply Ut 5<;>exact rfl)|(apply Ut 6<;>exact rfl)|(apply JJ 0<;>exact rfl)|(apply JJ 1<;>exact rfl)|(apply JJ 2<;>exact rfl)|(apply JJ 3<;>exact rfl)|(apply JJ 4<;>exact rfl)|(apply JJ 5<;>exact rfl)|(apply JJ 6<;>exact rfl)|(apply Tg<;>exact rfl)|(apply BG<;>exact rfl)|(apply Th<;>exact rfl)|(apply BF<;>exact rfl)|(apply SX<;>exact rfl)|(apply Tb<;>exact rfl)|(apply Td<;>exact rfl)|(apply Tc<;>exact rfl)|(apply Te<;>exact rfl)|(apply Tj<;>exact rfl)|(apply Ta<;>exact rfl)|(apply Ti<;>exact rfl)|(apply SY<;>exact rfl)|(apply Tl;exact rfl;exact rfl;omega;omega)|(apply SW;exact rfl;exact rfl;omega;omega)|(apply BI<;>exact rfl)|(apply Lq<;>exact rfl)));any_goals first|exact rfl|exact⟨rfl,rfl,rfl⟩)
  |((with_reducible refine' aN ?_ ?_);any_goals exact⟨rfl,rfl,rfl,rfl⟩)
  |((with_reducible refine' vU ?_ ?_);any_goals exact⟨rfl,rfl,rfl⟩)
  |((with_reducible refine' aO ?_ ?_);any_goals exact rfl)
  |((with_reducible refine' aP ?_ ?_);any_goals exact rfl)
  |((with_reducible refine' Eg 0 ?_ ?_);any_goals exact⟨rfl,rfl,rfl,rfl,rfl,rfl⟩)
  |((with_reducible refine' Eg 1 ?_ ?_);any_goals exact⟨rfl,rfl,rfl,rfl,rfl,rfl⟩)
  |((with_reducible refine' Eg 2 ?_ ?_);any_goals exact⟨rfl,rfl,rfl,rfl,rfl,rfl⟩)
  |((with_reducible refine' Eg 3 ?_ ?_);any_goals exact⟨rfl,rfl,rfl,rfl,rfl,rfl⟩)
  |((with_reducible refine' Eg 4 ?_ ?_);any_goals exact⟨rfl,rfl,rfl,rfl,rfl,rfl⟩)
  |((with_reducible refine' Eg 5 ?_ ?_);any_goals exact⟨rfl,rfl,rfl,rfl,rfl,rfl⟩)
  |((with_reducible refine' Eg 6 ?_ ?_);any_goals exact⟨rfl,rfl,rfl,rfl,rfl,rfl⟩)
  |((with_reducible refine' xi ?_ fun _=>?_);any_goals exact rfl)
  |((with_reducible refine' fM ?_ fun _=>?_);any_goals exact⟨rfl,rfl,rfl,rfl,rfl⟩)
  |((with_reducible refine' aQ ?_ ?_ fun _=>?_);(any_goals exact⟨rfl,rfl⟩);any_goals(intro(_:True);(repeat first|exact rfl|assumption|refine Qa ?_ ?_);done))
  |with_reducible exact wE):F T st:=h hn T st hK trivial hM
theorem Qb(j:Nat){T:Tr AV}{st:St}(hK:QT K T)(hM:Mem h0 n0 X st M)(hn:g')(h:To (SG j (fun s=>s=st) h0 n0 X K M (F)) g':=by
 repeat' first
  |with_reducible refine' jm ?_
  |with_reducible refine' vV ?_
  |with_reducible refine' vS ?_
  |with_reducible refine' vT ?_
  |with_reducible refine' SI ?_
  |with_reducible refine' jn ?_
  |with_reducible refine' SH ?_
  |with_reducible refine' CO ?_
  |((first|with_reducible refine' hZ ?_ ?_ ?_|with_reducible refine' ia ?_ ?_ ?_);(any_goals(first|(apply BH<;>exact rfl)|(apply HM<;>exact rfl)|(apply Ut 0<;>exact rfl)|(apply Ut 1<;>exact rfl)|(apply Ut 2<;>exact rfl)|(apply Ut 3<;>exact rfl)|(apply Ut 4<;>exact rfl)|(apply Ut 5<;>exact rfl)|(apply Ut 6<;>exact rfl)|(apply JJ 0<;>exact rfl)|(apply JJ 1<;>exact rfl)|(apply JJ 2<;>exact rfl)|(apply JJ 3<;>exact rfl)|(apply JJ 4<;>exact rfl)|(apply JJ 5<;>exact rfl)|(apply JJ 6<;>exact rfl)|(apply Tg<;>exact rfl)|(apply BG<;>exact rfl)|(apply Th<;>exact rfl)|(apply BF<;>exact rfl)|(apply SX<;>exact rfl)|(apply Tb<;>exact rfl)|(apply Td<;>exact rfl)|(apply Tc<;>exact rfl)|(apply Te<;>exact rfl)|(apply Tj<;>exact rfl)|(apply Ta<;>exact rfl)|(apply Ti<;>exact rfl)|(apply SY<;>exact rfl)|(apply Tl;exact rfl;exact rfl;omega;omega)|(apply SW;exact rfl;exact rfl;omega;omega)|(apply BI<;>exact rfl)|(apply Lq<;>exact rfl)));any_goals first|exact rfl|exact⟨rfl,rfl,rfl⟩)
  |((with_reducible refine' aN ?_ ?_);any_goals exact⟨rfl,rfl,rfl,rfl⟩)
  |((with_reducible refine' vU ?_ ?_);any_goals exact⟨rfl,rfl,rfl⟩)
  |((with_reducible refine' aO ?_ ?_);any_goals exact rfl)
  |((with_reducible refine' aP ?_ ?_);any_goals exact rfl)
  |with_reducible refine' fH ?_
  |with_reducible refine' fI ?_
  |((with_reducible refine' fK ?_ ?_);any_goals exact rfl)
  |((with_reducible refine' fJ ?_ ?_);(any_goals exact rfl);any_goals exact⟨rfl,rfl⟩)
  |((with_reducible refine' wD 0 ?_ ?_ ?_);(any_goals exact rfl);(any_goals infer_instance);any_goals exact⟨rfl,rfl,rfl⟩)
  |((with_reducible refine' wD 1 ?_ ?_ ?_);(any_goals exact rfl);(any_goals infer_instance);any_goals exact⟨rfl,rfl,rfl⟩)
  |((with_reducible refine' wD 2 ?_ ?_ ?_);(any_goals exact rfl);(any_goals infer_instance);any_goals exact⟨rfl,rfl,rfl⟩)
  |with_reducible exact xg):F T st:=h hn T st hK rfl hM
def DG(P:Program)(G:Env)(N:Nat)(h0:Hp)(n0:Nat)(X:List Nat)(M:List (Nat×Nat×List AV))(st:St)(sn:List St)(ops:List Oper)(R:Tr AV→St→Prop)(j:Nat)(w:List (Nat×Nat))(K:List (Nat×AV)):Prop:=Mem h0 n0 X st M→ ∀T,QT K T→WD P G N ops (w.map (Yq ops)) R T st sn
theorem im(ho:ops[i]? =some (⟨some d,op,ty,pos,af,none⟩))(hp:PO P G h0 n0 X K M op v)(hh:Nat.beq (QE P op) 3=false∧Nat.ble (d+1) N=true)(h:To (DG P G N h0 n0 X M st sn ops R j w ((d,v)::K)) g'):To (DG P G N h0 n0 X M st sn ops R (j+1) ((i,0)::w) K) g':=fun h' hM T hK=>d1 ho hK (hp.h st hM) hh.1 hh.2 fun T' hK'=>h h' hM T' hK'
theorem fL(ho:ops[i]? =some (⟨some d,op,ty,pos,af,some (jj,pol)⟩))(hp:PO P G h0 n0 X K M op v)(hh:Yj ops jj=some tt∧K.lookup tt=some (.bool pol)∧Nat.beq (QE P op) 3=false∧Nat.ble (d+1) N=true)(h:To (DG P G N h0 n0 X M st sn ops R j w ((d,v)::K)) g'):To (DG P G N h0 n0 X M st sn ops R (j+1) ((i,0)::w) K) g':=fun h' hM T hK=>dg ho hK hh.1 hh.2.1 (hp.h st hM) hh.2.2.1 hh.2.2.2 fun T' hK'=>h h' hM T' hK'
theorem xh:To (DG P G N h0 n0 X M st sn ops R i w K) (∀T,QT K T→WD P G N ops (w.map (Yq ops)) R T st sn):=fun h _=>h
theorem Jo(j:Nat){T:Tr AV}(hK:QT K T)(hM:Mem h0 n0 X st M)(hn:g')(h:To (DG P G N h0 n0 X M st sn ops R j w K) g':=by
 repeat' first
  |((first|with_reducible refine' im ?_ ?_ ?_ ?_);(any_goals exact rfl);(any_goals(first|(apply BH<;>exact rfl)|(apply HM<;>exact rfl)|(apply Ut 0<;>exact rfl)|(apply Ut 1<;>exact rfl)|(apply Ut 2<;>exact rfl)|(apply Ut 3<;>exact rfl)|(apply Ut 4<;>exact rfl)|(apply Ut 5<;>exact rfl)|(apply Ut 6<;>exact rfl)|(apply JJ 0<;>exact rfl)|(apply JJ 1<;>exact rfl)|(apply JJ 2<;>exact rfl)|(apply JJ 3<;>exact rfl)|(apply JJ 4<;>exact rfl)|(apply JJ 5<;>exact rfl)|(apply JJ 6<;>exact rfl)|(apply Tg<;>exact rfl)|(apply BG<;>exact rfl)|(apply Th<;>exact rfl)|(apply BF<;>exact rfl)|(apply SX<;>exact rfl)|(apply Tb<;>exact rfl)|(apply Td<;>exact rfl)|(apply Tc<;>exact rfl)|(apply Te<;>exact rfl)|(apply Tj<;>exact rfl)|(apply Ta<;>exact rfl)|(apply Ti<;>exact rfl)|(apply SY<;>exact rfl)|(apply Tl;exact rfl;exact rfl;omega;omega)|(apply SW;exact rfl;exact rfl;omega;omega)|(apply BI<;>exact rfl)|(apply Lq<;>exact rfl)));any_goals exact⟨rfl,rfl⟩)
  |((with_reducible refine' fL ?_ ?_ ?_ ?_);(any_goals exact rfl);(any_goals(first|(apply BH<;>exact rfl)|(apply HM<;>exact rfl)|(apply Ut 0<;>exact rfl)|(apply Ut 1<;>exact rfl)|(apply Ut 2<;>exact rfl)|(apply Ut 3<;>exact rfl)|(apply Ut 4<;>exact rfl)|(apply Ut 5<;>exact rfl)|(apply Ut 6<;>exact rfl)|(apply JJ 0<;>exact rfl)|(apply JJ 1<;>exact rfl)|(apply JJ 2<;>exact rfl)|(apply JJ 3<;>exact rfl)|(apply JJ 4<;>exact rfl)|(apply JJ 5<;>exact rfl)|(apply JJ 6<;>exact rfl)|(apply Tg<;>exact rfl)|(apply BG<;>exact rfl)|(apply Th<;>exact rfl)|(apply BF<;>exact rfl)|(apply SX<;>exact rfl)|(apply Tb<;>exact rfl)|(apply Td<;>exact rfl)|(apply Tc<;>exact rfl)|(apply Te<;>exact rfl)|(apply Tj<;>exact rfl)|(apply Ta<;>exact rfl)|(apply Ti<;>exact rfl)|(apply SY<;>exact rfl)|(apply Tl;exact rfl;exact rfl;omega;omega)|(apply SW;exact rfl;exact rfl;omega;omega)|(apply BI<;>exact rfl)|(apply Lq<;>exact rfl)));any_goals exact⟨rfl,rfl,rfl,rfl⟩)
  |with_reducible exact xh):WD P G N ops (w.map (Yq ops)) R T st sn:=h hn hM T hK
end
section
variable {P:Program} {G:Env} {N:Nat} {h0:Hp} {n0:Nat} {X:List Nat} {K:List (Nat×AV)} {M:List (Nat×Nat×List AV)} {ops rest:List Oper} {R:Tr AV→St→Prop} {Q:Ex→Tr AV→St→Prop} {d:Nat} {ty:TypeId} {pos:String} {af:Array Edge} {T:Tr AV} {st:St}
theorem Jy{a b:Code}{p:Prop} [Decidable p](hK:QT K T)(hg:QV G K g=some (.bool (decide p)))(ha:p→W P G N a Q T st)(hb: ¬p→W P G N b Q T st):W P G N (.cond g a b) Q T st:=Qp (hK.QG hg) (fun h=>ha (of_decide_eq_true h)) fun h=>hb (of_decide_eq_false h)
theorem aK{a b:Code}{p:Prop} [Decidable p](hK:QT K T)(hg:QV G K g=some (.bool (!decide p)))(ha: ¬p→W P G N a Q T st)(hb:p→W P G N b Q T st):W P G N (.cond g a b) Q T st:=Qp (hK.QG hg) (fun h=>ha (by simpa using h)) fun h=>hb (by simpa using h)
theorem oQ{args:Array Operand}{tys:Array TypeId}{l:List AV}{u:AV}(hK:QT K T)(hM:Mem h0 n0 X st M)(h: ∃v st',Ev P G f l st v st'∧v=u∧Qt st st')(ha:Uz (QV G K) args.toList=some l)(hN:Nat.ble (d+1) N=true)(hn: ∀T' st',QT ((d,u)::K) T'→Mem h0 n0 X st' M→WR P G N ops rest R T' st'):
  WR P G N ops (⟨some d,.call {callee:=.value (.func f),args:=args,argTypes:=tys},ty,pos,af,none⟩::rest) R T st:=by
 obtain⟨v,st',ev,rfl,q⟩:=h;exact o1 hK (Qg ha ev) hN fun T' hK'=>hn T' st' hK' (hM.quiet q)
theorem oR{args:Array Operand}{tys:Array TypeId}{l:List AV}{u:AV}(k:Nat){c m m':Nat}{r r':List AV}(hK:QT K T)(hM:Mem h0 n0 X st M)(h: ∃v st',Ev P G f l st v st'∧v=u∧vN [c] st st'∧Qy st'.h.get c m' r')(hk:M[k]? =some (c,m,r))(ha:Uz (QV G K) args.toList=some l)(hN:Nat.ble (d+1) N=true)(hn: ∀T' st',QT ((d,u)::K) T'→Mem h0 n0 X st' (M.set k (c,m',r'))→WR P G N ops rest R T' st'):
  WR P G N ops (⟨some d,.call {callee:=.value (.func f),args:=args,argTypes:=tys},ty,pos,af,none⟩::rest) R T st:=by
 obtain⟨v,st',ev,rfl,q,w⟩:=h;exact o1 hK (Qg ha ev) hN fun T' hK'=>hn T' st' hK' (hM.yV hk q w)
theorem Ci{fn:Func}{c:Code}{N:Nat}{rs:List ResultVar}{args:List AV}{Q:AV→St→Prop}(hs:G.s f=none)(hf:P.funcs[f]? =some fn)(hb:fn.body=some c)(hN:fn.ntmps=N)(hr:fn.results.toList=rs)
 (h: ∀T,(∀t,Y3 T t=(args[t]?).getD (.tup []))→W P G N c (fun x T st=>(x=.nor∨x=.ret)∧ ∃v,J8 P rs T st=some v∧Q v st) T st) (hname:(fn.name== "runtime.NumGoroutine")=false:=by decide) (hl:args.length≤N:=by simp): ∃v st',Ev P G f args st v st'∧Q v st':=wc hs hf hb hN hr hname hl h
theorem iq{t:Nat}{v:AV}(hK:QT K T)(h:K.lookup t=some v):J8 P [.tmp t] T st=some v:=Lo (Q6 hK h)
theorem rt2{t s:Nat}{u v:AV}(hK:QT K T)(h:K.lookup t=some u)(h':K.lookup s=some v):J8 P [.tmp t,.tmp s] T st=some (.tup [u,v]):=Ud (Q6 hK h) (Q6 hK h')
theorem ib{a:Nat}{t:TypeId}{l r:List AV} [ht:TA P t n](k:Nat){c m off:Nat}(hK:QT K T)(hM:Mem h0 n0 X st M)(h:K.lookup a=some (.ptr c m off))(hk:M[k]? =some (c,m,l))(hl:EF n (EI off l) (fun r=>some (AV.agg r))=some (.agg r)):J8 P [.cell a t] T st=some (.agg r):=Lo (JG hK h (hM.load hk (QN ht.h hl)))
theorem iw{op:Op}{p:Prop} [Decidable p](hK:QT K T)(h:U3 P G K op st (.bool (decide p)) st)(hN:Nat.ble (d+1) N=true)(hf: ∀T',¬p→QT ((d,.bool false)::K) T'→WR P G N ops rest R T' st)(ht: ∀T',p→QT ((d,.bool true)::K) T'→WR P G N ops rest R T' st):WR P G N ops (⟨some d,op,ty,pos,af,none⟩::rest) R T st:=oB hK h hN (fun b T' e K'=>by cases b;exact hf T' (of_decide_eq_false e) K';exact ht T' (of_decide_eq_true e) K')
theorem ix{op:Op}{p:Prop} [Decidable p](hK:QT K T)(h:U3 P G K op st (.bool (!decide p)) st)(hN:Nat.ble (d+1) N=true)(hf: ∀T',p→QT ((d,.bool false)::K) T'→WR P G N ops rest R T' st)(ht: ∀T',¬p→QT ((d,.bool true)::K) T'→WR P G N ops rest R T' st):WR P G N ops (⟨some d,op,ty,pos,af,none⟩::rest) R T st:=oB hK h hN (fun b T' e K'=>by cases b;exact hf T' ((by simpa using e)) K';exact ht T' ((by simpa using e)) K')
theorem Nx{op:Op}{p:Prop} [Decidable p](hK:QT K T)(hd:Yj ops jj=some tt)(hb:K.lookup tt=some (.bool pol))(h:U3 P G K op st (.bool (decide p)) st)(hN:Nat.ble (d+1) N=true)(hf: ∀T',¬p→QT ((d,.bool false)::K) T'→WR P G N ops rest R T' st)(ht: ∀T',p→QT ((d,.bool true)::K) T'→WR P G N ops rest R T' st):WR P G N ops (⟨some d,op,ty,pos,af,some (jj,pol)⟩::rest) R T st:=fQ hK hd hb h hN (fun b T' e K'=>by cases b;exact hf T' (of_decide_eq_false e) K';exact ht T' (of_decide_eq_true e) K')
theorem iv{op:Op}{p:Prop} [Decidable p](hK:QT K T)(hd:Yj ops jj=some tt)(hb:K.lookup tt=some (.bool pol))(h:U3 P G K op st (.bool (!decide p)) st)(hN:Nat.ble (d+1) N=true)(hf: ∀T',p→QT ((d,.bool false)::K) T'→WR P G N ops rest R T' st)(ht: ∀T',¬p→QT ((d,.bool true)::K) T'→WR P G N ops rest R T' st):WR P G N ops (⟨some d,op,ty,pos,af,some (jj,pol)⟩::rest) R T st:=fQ hK hd hb h hN (fun b T' e K'=>by cases b;exact hf T' ((by simpa using e)) K';exact ht T' ((by simpa using e)) K')
theorem Uj{x:Operand}{p:Prop} [Decidable p](hK:QT K T)(hx:QV G K x=some (.bool (decide p)))(hf: ∀T',¬p→QT ((d,.bool false)::K) T'→WR P G N ops rest R T' st)(ht: ∀T',p→QT ((d,.bool true)::K) T'→WR P G N ops rest R T' st)(hN:Nat.ble (d+1) N=true:=by exact rfl):WR P G N ops (⟨some d,.move x,ty,pos,af,none⟩::rest) R T st:=iw hK (Q0 hx) hN hf ht
theorem zI{x:Operand}{p:Prop} [Decidable p](hK:QT K T)(hx:QV G K x=some (.bool (!decide p)))(hf: ∀T',p→QT ((d,.bool false)::K) T'→WR P G N ops rest R T' st)(ht: ∀T',¬p→QT ((d,.bool true)::K) T'→WR P G N ops rest R T' st)(hN:Nat.ble (d+1) N=true:=by exact rfl):WR P G N ops (⟨some d,.move x,ty,pos,af,none⟩::rest) R T st:=ix hK (Q0 hx) hN hf ht
theorem dBp{op:Op}{p:Prop} [Decidable p](ho:ops[i]? =some (⟨some d,op,ty,pos,af,none⟩))(hK:QT K T)(h:U3 P G K op st (.bool (decide p)) st)(hk:Nat.beq (QE P op) 3=false)(hN:Nat.ble (d+1) N=true)(hf: ∀T',¬p→QT ((d,.bool false)::K) T'→WD P G N ops (w.map (Yq ops)) R T' st sn)(ht: ∀T',p→QT ((d,.bool true)::K) T'→WD P G N ops (w.map (Yq ops)) R T' st sn):WD P G N ops (((i,0)::w).map (Yq ops)) R T st sn:=dB ho hK h hk hN (fun b T' e K'=>by cases b;exact hf T' (of_decide_eq_false e) K';exact ht T' (of_decide_eq_true e) K')
theorem dBn{op:Op}{p:Prop} [Decidable p](ho:ops[i]? =some (⟨some d,op,ty,pos,af,none⟩))(hK:QT K T)(h:U3 P G K op st (.bool (!decide p)) st)(hk:Nat.beq (QE P op) 3=false)(hN:Nat.ble (d+1) N=true)(hf: ∀T',p→QT ((d,.bool false)::K) T'→WD P G N ops (w.map (Yq ops)) R T' st sn)(ht: ∀T',¬p→QT ((d,.bool true)::K) T'→WD P G N ops (w.map (Yq ops)) R T' st sn):WD P G N ops (((i,0)::w).map (Yq ops)) R T st sn:=dB ho hK h hk hN (fun b T' e K'=>by cases b;exact hf T' ((by simpa using e)) K';exact ht T' ((by simpa using e)) K')
def aj:Nat→List AV→List (Nat×AV)
 |_,[]=>[]
 |i,v::l=>(i,v)::aj (i+1) l
theorem TY: ∀(l:List AV) (i:Nat),(∀t,i≤t→Y3 T t=(l[t-i]?).getD (.tup []))→QT (aj i l) T
 |[],_,_=>.nil
 |v::l,i,h=>.cons (by have:=h i (Nat.le_refl _);rwa [Nat.sub_self]at this) (TY l (i+1) fun t ht=>by
  have:=h t Qc;rw[show t-i=t-(i+1)+1 by omega]at this
  exact this)
theorem JA{fn:Func}{c:Code}{N:Nat}{args:List AV}{Q:AV→St→Prop}(hf:P.funcs[f]? =some fn)(hN:fn.ntmps=N)
 (h: ∀T,QT (aj 0 args) T→W P G N c (fun x T st=>(x=.nor∨x=.ret)∧ ∃v,J8 P fn.results.toList T st=some v∧Q v st) T st) (hs:G.s f=none:=by rfl) (hb:fn.body=some c:=by rfl) (hname:(fn.name== "runtime.NumGoroutine")=false:=by decide) (hl:args.length≤N:=by simp): ∃v st',Ev P G f args st v st'∧Q v st':=wc hs hf hb hN rfl hname hl fun T hT=>h T (TY args 0 fun t _=>hT t)
theorem oI{x i:Operand}{t:TypeId}{k:IntKind}{v:AV}{z j:Nat}(hR:Jj st.h.get Y z ls ks)(hi:ls[j]? =some cs)(hK:QT K T)(he:Ue P t=some z)(ht:tk P t'=.one)(hx:QV G K x=some ks)(hy:QV G K i=some (.int k (j:Int)))(hv:cs[0]? =some v)(hn: ∀c m o T',QT ((d2,v)::(d,.ptr c m o)::K) T'→WR P G N ops rest R T' st)(hN:Nat.ble (d+1) N=true:=by exact rfl)(hN2:Nat.ble (d2+1) N=true:=by exact rfl):WR P G N ops (⟨some d,.indexAddr t x i,ty,pos,af,none⟩::⟨some d2,.load t' (.tmp d),ty2,pos2,af2,none⟩::rest) R T st:=by
 obtain⟨c,m,off,rfl,_,la,lo,_⟩:=hR.load (P:=P) hi;exact o1 hK (Qe he hx hy (List.getElem?_eq_some_iff.1 hi).1) hN fun T' K'=>o1 K' (Qf (show QV G (_::K) (.tmp d)=_ by show List.lookup d _=_;rw[List.lookup_cons];simp) (lo _ 0 _ ht hv)) hN2 fun T'' K''=>hn _ _ _ _ K''
theorem dI{x i:Operand}{t:TypeId}{k:IntKind}{v:AV}{z j:Nat}{i1 i2:Nat}{r:List (Nat×Nat)}(ho:ops[i1]? =some ⟨some d,.indexAddr t x i,ty,pos,af,none⟩)(ho2:ops[i2]? =some ⟨some d2,.load t' (.tmp d),ty2,pos2,af2,none⟩)(hR:Jj st.h.get Y z ls ks)(hi:ls[j]? =some cs)(hK:QT K T)(he:Ue P t=some z)(ht:tk P t'=.one)(hx:QV G K x=some ks)(hy:QV G K i=some (.int k (j:Int)))(hv:cs[0]? =some v)(hn: ∀c m o T',QT ((d2,v)::(d,.ptr c m o)::K) T'→WD P G N ops (r.map (Yq ops)) R T' st sn)(hN:Nat.ble (d+1) N=true:=by exact rfl)(hN2:Nat.ble (d2+1) N=true:=by exact rfl):WD P G N ops (((i1,0)::(i2,0)::r).map (Yq ops)) R T st sn:=by
 obtain⟨c,m,off,rfl,_,la,lo,_⟩:=hR.load (P:=P) hi;exact d1 ho hK (Qe he hx hy (List.getElem?_eq_some_iff.1 hi).1) rfl hN fun T' K'=>d1 ho2 K' (Qf (show QV G (_::K) (.tmp d)=_ by show List.lookup d _=_;rw[List.lookup_cons];simp) (lo _ 0 _ ht hv)) rfl hN2 fun T'' K''=>hn _ _ _ _ K''
theorem Ts{x i:Operand}{t:TypeId}{k:IntKind}{z j:Nat}(hR:Jj st.h.get Y z ls ks)(hi:ls[j]? =some cs)(hK:QT K T)(he:Ue P t=some z)(ht:tk P t'=.agg z)(hx:QV G K x=some ks)(hy:QV G K i=some (.int k (j:Int)))(hn: ∀c m o T',QT ((d2,.agg cs)::(d,.ptr c m o)::K) T'→WR P G N ops rest R T' st)(hN:Nat.ble (d+1) N=true:=by exact rfl)(hN2:Nat.ble (d2+1) N=true:=by exact rfl):WR P G N ops (⟨some d,.indexAddr t x i,ty,pos,af,none⟩::⟨some d2,.load t' (.tmp d),ty2,pos2,af2,none⟩::rest) R T st:=by
 obtain⟨c,m,off,rfl,_,la,lo,_⟩:=hR.load (P:=P) hi;exact o1 hK (Qe he hx hy (List.getElem?_eq_some_iff.1 hi).1) hN fun T' K'=>o1 K' (Qf (show QV G (_::K) (.tmp d)=_ by show List.lookup d _=_;rw[List.lookup_cons];simp) (la _ ht)) hN2 fun T'' K''=>hn _ _ _ _ K''
theorem iB{x i:Operand}{t:TypeId}{k:IntKind}{z j:Nat}{i1 i2:Nat}{r:List (Nat×Nat)}(ho:ops[i1]? =some ⟨some d,.indexAddr t x i,ty,pos,af,none⟩)(ho2:ops[i2]? =some ⟨some d2,.load t' (.tmp d),ty2,pos2,af2,none⟩)(hR:Jj st.h.get Y z ls ks)(hi:ls[j]? =some cs)(hK:QT K T)(he:Ue P t=some z)(ht:tk P t'=.agg z)(hx:QV G K x=some ks)(hy:QV G K i=some (.int k (j:Int)))(hn: ∀c m o T',QT ((d2,.agg cs)::(d,.ptr c m o)::K) T'→WD P G N ops (r.map (Yq ops)) R T' st sn)(hN:Nat.ble (d+1) N=true:=by exact rfl)(hN2:Nat.ble (d2+1) N=true:=by exact rfl):WD P G N ops (((i1,0)::(i2,0)::r).map (Yq ops)) R T st sn:=by
 obtain⟨c,m,off,rfl,_,la,lo,_⟩:=hR.load (P:=P) hi;exact d1 ho hK (Qe he hx hy (List.getElem?_eq_some_iff.1 hi).1) rfl hN fun T' K'=>d1 ho2 K' (Qf (show QV G (_::K) (.tmp d)=_ by show List.lookup d _=_;rw[List.lookup_cons];simp) (la _ ht)) rfl hN2 fun T'' K''=>hn _ _ _ _ K''
theorem p1{op:Op}{v:AV}(hK:QT K T)(h:U3 P G K op st v st1)(hn: ∀T',QT ((d,v)::K) T'→WR P G N ops rest R T' st1)(hN:Nat.ble (d+1) N=true:=by exact rfl):WR P G N ops (⟨some d,op,ty,pos,af,none⟩::rest) R T st:=o1 hK h hN hn
theorem pg{j t:Nat}{op:Op}{v:AV}(hK:QT K T)(ht:Yj ops j=some t)(hb:K.lookup t=some (.bool pol))(h:U3 P G K op st v st1)(hn: ∀T',QT ((d,v)::K) T'→WR P G N ops rest R T' st1)(hN:Nat.ble (d+1) N=true:=by exact rfl):WR P G N ops (⟨some d,op,ty,pos,af,some (j,pol)⟩::rest) R T st:=og hK ht hb h hN hn
theorem q1{r:List (Nat×Nat)}{op:Op}{v:AV}(ho:ops[i]? =some ⟨some d,op,ty,pos,af,none⟩)(hK:QT K T)(h:U3 P G K op st v st1)(hn: ∀T',QT ((d,v)::K) T'→WD P G N ops (r.map (Yq ops)) R T' st1 sn)(hk:Nat.beq (QE P op) 3=false:=by exact rfl)(hN:Nat.ble (d+1) N=true:=by exact rfl):WD P G N ops (((i,0)::r).map (Yq ops)) R T st sn:=d1 ho hK h hk hN hn
theorem qA{r:List (Nat×Nat)}{op:Op}{v:AV}(ho:ops[i]? =some ⟨some d,op,ty,pos,af,none⟩)(hK:QT K T)(h:U3 P G K op st v st1)(hn: ∀T',QT ((d,v)::K) T'→WD P G N ops (r.map (Yq ops)) R T' st1 (st1::sn))(hk:Nat.beq (QE P op) 3=true:=by exact rfl)(hN:Nat.ble (d+1) N=true:=by exact rfl):WD P G N ops (((i,0)::r).map (Yq ops)) R T st sn:=dA ho hK h hk hN hn
end
end Go.Proofs.YtiknomepbklibaaGreatDoor
