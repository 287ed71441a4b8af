/-
  Straight runs of operations in one step.
-/
import Derived.Test.YthjgndgnmkiaiaaGreatDoorZpTyg
namespace Go.Proofs.YthjgndgnmkiaiaaGreatDoor
open Go Go.RowKit
set_option linter.unusedVariables false
set_option linter.unusedSectionVars false
variable {F:Tr AV→St→Prop} {Y:List Nat} {af2:Array Edge} {cs:List AV} {d2 i id jj n t1 tt:Nat} {f:FuncId} {g:Operand} {ks:AV} {ls:List (List AV)} {pol:Bool} {pos2:String} {sn:List St} {st1:St} {t' ty2:TypeId} {w:List (Nat×Nat)}

class FO(P:Program)(t:TypeId)(f:Nat)(o:outParam Nat):Prop where
 h:Jm P t f=some o
class T1(P:Program)(t:TypeId):Prop where
 h:tk P t=.one
class TA(P:Program)(t:TypeId)(n:outParam Nat):Prop where
 h:tk P t=.agg n
class ZE(P:Program)(t:TypeId)(l:outParam (List AV)):Prop where
 h:zeroOf P t=some l
class SZ(P:Program)(t:TypeId)(n:outParam Nat):Prop where
 h:Xh P t=some n
class UL(P:Program)(t:TypeId):Prop where
 h: ∃e,P.underlying t=some (.slice e)
class ST(P:Program)(t:TypeId)(tbl:outParam (List (Nat×Nat)))(z:outParam (List AV)):Prop where
 h:ai P t tbl z
class SL(P:Program)(t:TypeId)(e:outParam TypeId)(z:outParam Nat):Prop where
 h:Cf P t e z
instance :FO Tryz.prog 26 0 0:=⟨Hg⟩
instance :FO Tryz.prog 26 1 1:=⟨GI⟩
instance :FO Tryz.prog 26 2 2:=⟨GH⟩
instance :FO Tryz.prog 26 4 4:=⟨GG⟩
instance :FO Tryz.prog 28 0 0:=⟨GA⟩
instance :FO Tryz.prog 28 1 1:=⟨G9⟩
instance :FO Tryz.prog 28 2 2:=⟨G8⟩
instance :FO Tryz.prog 31 0 0:=⟨GF⟩
instance :FO Tryz.prog 31 1 1:=⟨GD⟩
instance :FO Tryz.prog 31 2 2:=⟨GC⟩
instance :FO Tryz.prog 55 0 0:=⟨GK⟩
instance :FO Tryz.prog 55 1 1:=⟨GJ⟩
instance :FO Tryz.prog 74 0 0:=⟨OE⟩
instance :FO Tryz.prog 74 1 1:=⟨OD⟩
instance :FO Tryz.prog 74 2 2:=⟨OC⟩
instance :FO Tryz.prog 74 3 3:=⟨OB⟩
instance :FO Tryz.prog 108 0 0:=⟨A7⟩
instance :FO Tryz.prog 108 1 1:=⟨A4⟩
instance :FO Tryz.prog 108 2 2:=⟨A3⟩
instance :FO Tryz.prog 108 3 3:=⟨A0⟩
instance :FO Tryz.prog 113 0 0:=⟨G7⟩
instance :FO Tryz.prog 113 1 1:=⟨G6⟩
instance :FO Tryz.prog 48 0 0:=⟨Kh⟩
instance :FO Tryz.prog 48 1 1:=⟨Kg⟩
instance :FO Tryz.prog 48 2 2:=⟨Kf⟩
instance :FO Tryz.prog 48 3 3:=⟨Ke⟩
instance :FO Tryz.prog 48 4 4:=⟨Kd⟩
instance :T1 Tryz.prog 3:=⟨J4⟩
instance :T1 Tryz.prog 4:=⟨Mh⟩
instance :T1 Tryz.prog 9:=⟨Qr⟩
instance :T1 Tryz.prog 21:=⟨Iv⟩
instance :T1 Tryz.prog 24:=⟨Jk⟩
instance :TA Tryz.prog 26 5:=⟨Qs⟩
instance :T1 Tryz.prog 22:=⟨YG⟩
instance :T1 Tryz.prog 23:=⟨Xg⟩
instance :TA Tryz.prog 28 7:=⟨WJ⟩
instance :TA Tryz.prog 31 8:=⟨V2⟩
instance :TA Tryz.prog 55 3:=⟨DS⟩
instance :T1 Tryz.prog 43:=⟨AB⟩
instance :TA Tryz.prog 74 4:=⟨Up⟩
instance :T1 Tryz.prog 33:=⟨EM⟩
instance :T1 Tryz.prog 76:=⟨YF⟩
instance :T1 Tryz.prog 46:=⟨XG⟩
instance :ZE Tryz.prog 9 [.str []]:=⟨GQ⟩
instance :ZE Tryz.prog 26 [.str [],.str [],.int .i64 0,.int .i64 0,.nils]:=⟨UD⟩
instance :ZE Tryz.prog 28 [.nils,.nils,.str [],.str [],.int .i64 0,.int .i64 0,.nils]:=⟨Lo⟩
instance :ZE Tryz.prog 31 [.str [],.nils,.str [],.str [],.int .i64 0,.int .i64 0,.nils,.int .i64 0]:=⟨X2⟩
instance :ZE Tryz.prog 55 [.str [],.int .i64 0,.int .i64 0]:=⟨Vz⟩
instance :ZE Tryz.prog 74 [.int .i64 0,.str [],.int .i64 0,.int .i64 0]:=⟨XD⟩
instance :ZE Tryz.prog 108 [.str [],.nils,.int .i64 0,.int .i64 0]:=⟨VL⟩
instance :ZE Tryz.prog 48 [.nils,.int .i64 0,.bool false,.int .i64 0,.int .i64 0]:=⟨Aw⟩
instance :SZ Tryz.prog 3 1:=⟨S5⟩
instance :SZ Tryz.prog 4 1:=⟨wa⟩
instance :SZ Tryz.prog 9 1:=⟨GZ⟩
instance :SZ Tryz.prog 26 5:=⟨Q9⟩
instance :SZ Tryz.prog 22 1:=⟨Vr⟩
instance :SZ Tryz.prog 23 1:=⟨FZ⟩
instance :SZ Tryz.prog 28 7:=⟨X3⟩
instance :SZ Tryz.prog 31 8:=⟨X4⟩
instance :SZ Tryz.prog 55 3:=⟨DV⟩
instance :SZ Tryz.prog 74 4:=⟨ES⟩
instance :SZ Tryz.prog 33 1:=⟨C4⟩
instance :SZ Tryz.prog 76 1:=⟨FY⟩
instance :UL Tryz.prog 24:=⟨_,Jj⟩
instance :ST Tryz.prog 26 [(0,1),(1,1),(2,1),(3,1),(4,1)] [.str [],.str [],.int .i64 0,.int .i64 0,.nils]:=⟨AG⟩
instance :UL Tryz.prog 22:=⟨_,UO⟩
instance :UL Tryz.prog 23:=⟨_,Yq⟩
instance :ST Tryz.prog 28 [(0,1),(1,1),(2,5)] [.nils,.nils,.str [],.str [],.int .i64 0,.int .i64 0,.nils]:=⟨DY⟩
instance :ST Tryz.prog 31 [(0,1),(1,1),(2,5),(7,1)] [.str [],.nils,.str [],.str [],.int .i64 0,.int .i64 0,.nils,.int .i64 0]:=⟨DZ⟩
instance :UL Tryz.prog 61:=⟨_,WI⟩
instance :ST Tryz.prog 55 [(0,1),(1,1),(2,1)] [.str [],.int .i64 0,.int .i64 0]:=⟨Pa⟩
instance :UL Tryz.prog 43:=⟨_,Wg⟩
instance :ST Tryz.prog 74 [(0,1),(1,1),(2,1),(3,1)] [.int .i64 0,.str [],.int .i64 0,.int .i64 0]:=⟨C6⟩
instance :UL Tryz.prog 76:=⟨_,YE⟩
instance :ST Tryz.prog 108 [(0,1),(1,1),(2,1),(3,1)] [.str [],.nils,.int .i64 0,.int .i64 0]:=⟨FT⟩
instance :SL Tryz.prog 24 26 5:=⟨UP⟩
instance :SL Tryz.prog 22 55 3:=⟨YH⟩
instance :SL Tryz.prog 23 31 8:=⟨WW⟩
instance :SL Tryz.prog 61 9 1:=⟨Lu⟩
instance :SL Tryz.prog 43 74 4:=⟨Wh⟩
instance :ST Tryz.prog 48 [(0,1),(1,1),(2,1),(3,1),(4,1)] [.nils,.int .i64 0,.bool false,.int .i64 0,.int .i64 0]:=⟨Ax⟩
abbrev iZ(z:Int):AV:=.int .i64 z
abbrev iN(n:Nat):AV:=.int .i64 n
def SG(j:Nat)(q:St→Prop)(h0:Hp)(n0:Nat)(X:List Nat)(K:List (Nat×AV))(M:List (Nat×Nat×List AV))(F:Tr AV→St→Prop):Prop:= ∀T st,Jn K T→q st→Mem h0 n0 X st M→F T st
def To(g g':Prop):Prop:=g'→g
structure PO(P:Program)(G:Env)(h0:Hp)(n0:Nat)(X:List Nat)(K:List (Nat×AV))(M:List (Nat×Nat×List AV))(op:Op)(v:AV):Prop where
 h: ∀st,Mem h0 n0 X st M→Z6 P G K op st v st
section
variable {j:Nat} {q:St→Prop} {P:Program} {G:Env} {N:Nat} {h0:Hp} {n0:Nat} {X:List Nat} {K:List (Nat×AV)} {M:List (Nat×Nat×List AV)} {g':Prop} {ops rest:List Oper} {R:Tr AV→St→Prop} {Q:Ex→Tr AV→St→Prop} {d:Nat} {ty:TypeId} {pos:String} {af:Array Edge} {st:St} {op:Op} {u v:AV} {x y:Operand} {t yt:TypeId} {k:IntKind} {a b:Int} {r l:List AV} {c m off:Nat} {A B:Bool} {tys:Array TypeId} {s z:List Nat}
theorem fR(h:JM G K x=some v):PO P G h0 n0 X K M (.move x) (v):=⟨fun _ hM=>Q7 h⟩
theorem zq(h:JM G K x=some v):PO P G h0 n0 X K M (.assign x) (v):=⟨fun _ hM=>JL h⟩
theorem Hz [ht:T1 P t](i:Nat)(h:JM G K x=some (.ptr c m off))(h1:M[i]? =some (c,m,l))(h2:nth l off=some v):PO P G h0 n0 X K M (.load t x) v:=⟨fun _ hM=>QK h (hM.load h1 (Qj ht.h h2))⟩
theorem Ac [ht:TA P t n](i:Nat)(h:JM G K x=some (.ptr c m off))(h1:M[i]? =some (c,m,l))(h2:WK n (EA off l) (fun r=>some (AV.agg r))=some (.agg r)):PO P G h0 n0 X K M (.load t x) (.agg r):=⟨fun _ hM=>QK h (hM.load h1 (Jl ht.h h2))⟩
theorem lI{f o:Nat} [ho:FO P t f o](h:JM G K x=some (.ptr c m off)):PO P G h0 n0 X K M (.fieldAddr t x f) (.ptr c m (off+o)):=⟨fun _ hM=>IJ ho.h h⟩
theorem fQ(h:JM G K x=some (.ptr c m off)):PO P G h0 n0 X K M (.nilCheck x) (.ptr c m off):=⟨fun _ hM=>fU h rfl⟩
theorem lJ(h:JM G K x=some (.tup l))(h':nth l i=some v):PO P G h0 n0 X K M (.extract x i) (v):=⟨fun _ hM=>Tb h h'⟩
theorem fP{w1 w2:Operand}(h:JM G K x=some (.bool A))(h1:JM G K w1=some u)(h2:JM G K w2=some v):PO P G h0 n0 X K M (.pick x w1 w2) (Ql A u v):=⟨fun _ hM=>wK h h1 h2⟩
theorem lB(h:JM G K x=some (.bool A)):PO P G h0 n0 X K M (.unOp .not t x) (.bool (!A)):=⟨fun _ hM=>zt h⟩
theorem lE(h:JM G K x=some (.int k a))(h':JM G K y=some (.int k b)):PO P G h0 n0 X K M (.binOp .lss t x y yt) (.bool (decide (a<b))):=⟨fun _ hM=>Ta h h'⟩
theorem lG(h:JM G K x=some (.int k a))(h':JM G K y=some (.int k b)):PO P G h0 n0 X K M (.binOp .gtr t x y yt) (.bool (decide (b<a))):=⟨fun _ hM=>fY h h'⟩
theorem lF(h:JM G K x=some (.int k a))(h':JM G K y=some (.int k b)):PO P G h0 n0 X K M (.binOp .leq t x y yt) (.bool (decide (a≤b))):=⟨fun _ hM=>fX h h'⟩
theorem lH(h:JM G K x=some (.int k a))(h':JM G K y=some (.int k b)):PO P G h0 n0 X K M (.binOp .geq t x y yt) (.bool (decide (b≤a))):=⟨fun _ hM=>CL h h'⟩
theorem lL(h:JM G K x=some (.int k a))(h':JM G K y=some (.int k b)):PO P G h0 n0 X K M (.binOp .eql t x y yt) (.bool (decide (a=b))):=⟨fun _ hM=>fZ h h'⟩
theorem lD(h:JM G K x=some (.int k a))(h':JM G K y=some (.int k b)):PO P G h0 n0 X K M (.binOp .neq t x y yt) (.bool (!decide (a=b))):=⟨fun _ hM=>fV h h'⟩
theorem lK(h:JM G K x=some (.str s))(h':JM G K y=some (.str z)):PO P G h0 n0 X K M (.binOp .eql t x y yt) (.bool (decide (s=z))):=⟨fun _ hM=>Jw h h'⟩
theorem lC(h:JM G K x=some (.str s))(h':JM G K y=some (.str z)):PO P G h0 n0 X K M (.binOp .neq t x y yt) (.bool (!decide (s=z))):=⟨fun _ hM=>Ol h h'⟩
theorem lM(h:JM G K x=some (.int .i64 a))(h':JM G K y=some (.int .i64 b))(h1: -9223372036854775808≤a+b)(h2:a+b≤9223372036854775807):PO P G h0 n0 X K M (.binOp .add t x y yt) (.int .i64 (a+b)):=⟨fun _ _=>ia h h' h1 h2⟩
theorem lA(h:JM G K x=some (.int .i64 a))(h':JM G K y=some (.int .i64 b))(h1: -9223372036854775808≤a-b)(h2:a-b≤9223372036854775807):PO P G h0 n0 X K M (.binOp .sub t x y yt) (.int .i64 (a-b)):=⟨fun _ _=>fT h h' h1 h2⟩
theorem fS [hu:UL P t](h:JM G K x=some u)(h':VN u=some n):PO P G h0 n0 X K M (.call {callee:=.builtin .len,args:= #[x],argTypes:= #[t]}) (.int .i64 (n:Int)):=⟨fun _ _=>by obtain⟨e,hu⟩:=hu.h;exact Jp hu rfl h h'⟩
theorem wG{parts:Array (Nat×Operand)}{ps:List (Nat×AV)}{tbl:List (Nat×Nat)}{zz:List AV} [hs:ST P t tbl zz](h:Xt (JM G K) parts=some ps)(h':VP (nth tbl) ps zz=some r):PO P G h0 n0 X K M (.build t parts) (.agg r):=⟨fun _ hM=>IK hs.h h h'⟩
theorem ye{k:Tr AV→St→Prop}(h:To (SG j q h0 n0 X K M (k)) g'):To (SG j q h0 n0 X K M (NB k Q .nor)) g':=h
theorem aA(h:To (SG j q h0 n0 X K M (Q .nor)) g'):To (SG j q h0 n0 X K M (D4 id Q .nor)) g':=h
theorem ax{a b:Code}(h:To (SG j q h0 n0 X K M (W P G N (a) (NB (W P G N b Q) Q))) g'):To (SG j q h0 n0 X K M (W P G N (.seq a b) Q)) g':=fun h' T st hK hq hM=>JK (h h' T st hK hq hM)
theorem Mn{c:Code}(h:To (SG j q h0 n0 X K M (W P G N (c) (D4 id Q))) g'):To (SG j q h0 n0 X K M (W P G N (.block id c) Q)) g':=fun h' T st hK hq hM=>F3 (h h' T st hK hq hM)
theorem yf(h:To (SG j q h0 n0 X K M (Q .nor)) g'):To (SG j q h0 n0 X K M (W P G N (.skip) Q)) g':=fun h' T st hK hq hM=>Zg (h h' T st hK hq hM)
theorem Mm{l:Nat}(h:To (SG j q h0 n0 X K M (Q .nor)) g'):To (SG j q h0 n0 X K M (W P G N (.label l) Q)) g':=fun h' T st hK hq hM=>vQ (h h' T st hK hq hM)
theorem DU{l:List Oper}(h:To (SG j q h0 n0 X K M (WR P G N l l (Q .nor))) g'):To (SG j q h0 n0 X K M (W P G N (.region id l.toArray false) Q)) g':=fun h' T st hK hq hM=>US (h h' T st hK hq hM)
theorem ay(h:To (SG j q h0 n0 X K M (R)) g'):To (SG j q h0 n0 X K M (WR P G N ops [] R)) g':=fun h' T st hK hq hM=>Xr (h h' T st hK hq hM)
theorem kL{a b:Code}(hg:JM G K g=some (.bool true))(h:To (SG j q h0 n0 X K M (W P G N (a) Q)) g'):To (SG (j+1) q h0 n0 X K M (W P G N (.cond g a b) Q)) g':=fun h' T st hK hq hM=>Wf (hK.Ul hg) (fun _=>h h' T st hK hq hM) (fun e=>by cases e)
theorem kM{a b:Code}(hg:JM G K g=some (.bool false))(h:To (SG j q h0 n0 X K M (W P G N (b) Q)) g'):To (SG (j+1) q h0 n0 X K M (W P G N (.cond g a b) Q)) g':=fun h' T st hK hq hM=>Wf (hK.Ul hg) (fun e=>by cases e) (fun _=>h h' T st hK hq hM)
theorem o7(hp:PO P G h0 n0 X K M op v)(hN:Nat.ble (d+1) N=true)(h:To (SG j q h0 n0 X ((d,v)::K) M (WR P G N ops rest R)) g'):To (SG (j+1) q h0 n0 X K M (WR P G N ops (⟨some d,op,ty,pos,af,none⟩::rest) R)) g':=fun h' T st hK hq hM=>o1 hK (hp.h st hM) hN fun T' hK'=>h h' T' st hK' hq hM
theorem o8(hp:PO P G h0 n0 X K M op v)(hh:YY ops jj=some tt∧K.lookup tt=some (.bool pol)∧Nat.ble (d+1) N=true)(h:To (SG j q h0 n0 X ((d,v)::K) M (WR P G N ops rest R)) g'):To (SG (j+1) q h0 n0 X K M (WR P G N ops (⟨some d,op,ty,pos,af,some (jj,pol)⟩::rest) R)) g':=fun h' T st hK hq hM=>og hK hh.1 hh.2.1 (hp.h st hM) hh.2.2 fun T' hK'=>h h' T' st hK' hq hM
theorem kK(hh:YY ops jj=some tt∧K.lookup tt=some (.bool A)∧(A==pol)=false∧Nat.ble (d+1) N=true)(h:To (SG j q h0 n0 X ((d,.tup [])::K) M (WR P G N ops rest R)) g'):To (SG (j+1) q h0 n0 X K M (WR P G N ops (⟨some d,op,ty,pos,af,some (jj,pol)⟩::rest) R)) g':=fun h' T st hK hq hM=>gn hK hh.1 hh.2.1 hh.2.2.1 hh.2.2.2 fun T' hK'=>h h' T' st hK' hq hM
theorem az(hh:YY ops jj=some tt∧K.lookup tt=some (.tup [])∧Nat.ble (d+1) N=true)(h:To (SG j q h0 n0 X ((d,.tup [])::K) M (WR P G N ops rest R)) g'):To (SG (j+1) q h0 n0 X K M (WR P G N ops (⟨some d,op,ty,pos,af,some (jj,pol)⟩::rest) R)) g':=fun h' T st hK hq hM=>oU hK hh.1 hh.2.1 hh.2.2 fun T' hK'=>h h' T' st hK' hq hM
theorem ER [hz:SZ P t n](i:Nat){r':List AV}(hh:JM G K x=some (.ptr c m off)∧JM G K y=some v∧M[i]? =some (c,m,r)∧(J1 v).length=n∧W4 QI (J1 v)=true∧Xl (J1 v) off r=some r')(h:To (SG j (fun _=>True) h0 n0 X K (M.set i (c,m,r')) (WR P G N ops rest R)) g'):To (SG (j+1) (fun _=>True) h0 n0 X K M (WR P G N ops (⟨none,.store t x y,ty,pos,af,none⟩::rest) R)) g':=fun h' T st hK _ hM=>Jr (k:=i) hK hM hh.1 hh.2.1 hh.2.2.1 hz.h hh.2.2.2.1 hh.2.2.2.2.1 hh.2.2.2.2.2 fun st' hM'=>h h' T st' hK trivial hM'
theorem vZ{g:Nat→Prop} [hz:ZE P t l](hN:Nat.ble (d+1) N=true)(h: ∀c,To (SG j (fun _=>True) h0 n0 X ((d,.ptr c 0 0)::K) ((c,0,l)::M) (WR P G N ops rest R)) (g c)):To (SG (j+1) (fun _=>True) h0 n0 X K M (WR P G N ops (⟨some d,.alloc t,ty,pos,af,none⟩::rest) R)) (∀c,g c):=fun h' T st hK _ hM=>Ip hK hM hz.h (Nat.le_of_ble_eq_true hN) fun c T' st' hK' hM'=>h c (h' c) T' st' hK' trivial hM'
theorem kN{g:Nat→Prop}(hh:JM G K x=some v∧Nat.ble (d+1) N=true)(hc:True→W4 QI (J1 v)=true)(h: ∀c,To (SG j (fun _=>True) h0 n0 X ((d,.ptr c 0 0)::K) ((c,0,J1 v)::M) (WR P G N ops rest R)) (g c)):To (SG (j+1) (fun _=>True) h0 n0 X K M (WR P G N ops (⟨some d,.box t x,ty,pos,af,none⟩::rest) R)) (∀c,g c):=fun h' T st hK _ hM=>Y8 hK hM hh.1 (hc trivial) (Nat.le_of_ble_eq_true hh.2) fun c T' st' hK' hM'=>h c (h' c) T' st' hK' trivial hM'
theorem nM{g:Nat→Prop}{e:TypeId}{len w:Nat}{parts:Array (Nat×Operand)}{ps:List (Nat×AV)} [hs:SL P t e w] [hz:ZE P e l](hh:Xt (JM G K) parts=some ps∧VP (fun i=>some (i *w,w)) ps (WG len l)=some r∧W4 QI r=true∧Nat.ble (len *w) 16777216=true∧Nat.ble (d+1) N=true)(h: ∀c,To (SG j (fun _=>True) h0 n0 X ((d,.sl c 0 0 len w)::K) ((c,0,r)::M) (WR P G N ops rest R)) (g c)):To (SG (j+1) (fun _=>True) h0 n0 X K M (WR P G N ops (⟨some d,.buildSlice t len parts,ty,pos,af,none⟩::rest) R)) (∀c,g c):=fun h' T st hK _ hM=>DF hK hM hs.h hz.h hh.1 hh.2.1 hh.2.2.1 hh.2.2.2.1 hh.2.2.2.2 fun c T' st' hK' hM'=>h c (h' c) T' st' hK' trivial hM'
theorem fx{g:Prop}:To g g:=id
theorem vX:To (SG j (fun s=>s=st) h0 n0 X K M (F)) (∀T,Jn K T→F T st):=fun h T _ hK hq hM=>hq▸h T hK
theorem nH{k:Tr AV→St→Prop}(h:To (SG j q h0 n0 X K M (W P G N (.ret) Q)) g'):To (SG j q h0 n0 X K M (W P G N (.ret) (NB k Q))) g':=fun h' T st hK hq hM=>UR (by have h2:=h h' T st hK hq hM;obtain⟨L,n,x,T',st',h3,h4⟩:=h2;injection h3 with h3;injection h3 with h5 h6;injection h6 with h6 h7;subst h5 h6 h7;exact h4)
theorem nI(h:To (SG j q h0 n0 X K M (W P G N (.ret) Q)) g'):To (SG j q h0 n0 X K M (W P G N (.ret) (D4 id Q))) g':=fun h' T st hK hq hM=>UR (by have h2:=h h' T st hK hq hM;obtain⟨L,n,x,T',st',h3,h4⟩:=h2;injection h3 with h3;injection h3 with h5 h6;injection h6 with h6 h7;subst h5 h6 h7;exact h4)
theorem nK{Z:AV→St→Prop}{rs:List ResultVar}(hr:rs=[.tmp t1])(hh:K.lookup t1=some v):To (SG j (fun s=>s=st) h0 n0 X K M (W P G N (.ret) (fun x T s=>(x=.nor∨x=.ret)∧ ∃v,JG P rs T s=some v∧Z v s))) (Z v st):=fun h' T s hK hq hM=>UR ⟨.inr rfl,_,by rw[hr];exact Nj (JX hK hh),by subst hq;exact h'⟩
theorem nJ{t2:Nat}{Z:AV→St→Prop}{rs:List ResultVar}(hr:rs=[.tmp t1,.tmp t2])(hh:K.lookup t1=some u∧K.lookup t2=some v):To (SG j (fun s=>s=st) h0 n0 X K M (W P G N (.ret) (fun x T s=>(x=.nor∨x=.ret)∧ ∃v,JG P rs T s=some v∧Z v s))) (Z (.tup [u,v]) st):=fun h' T s hK hq hM=>UR ⟨.inr rfl,_,by rw[hr];exact Xo (JX hK hh.1) (JX hK hh.2),by subst hq;exact h'⟩
theorem fw{Z:AV→St→Prop}{rs:List ResultVar}(i:Nat)(ht:TA P t n)(hr:rs=[.cell t1 t])(hh:K.lookup t1=some (.ptr c m off)∧M[i]? =some (c,m,l)∧WK n (EA off l) (fun r=>some (AV.agg r))=some (.agg r)):To (SG j (fun s=>s=st) h0 n0 X K M (W P G N (.ret) (fun x T s=>(x=.nor∨x=.ret)∧ ∃v,JG P rs T s=some v∧Z v s))) (Z (.agg r) st):=fun h' T s hK hq hM=>UR ⟨.inr rfl,_,by rw[hr];exact Nj (Zh hK hh.1 (hM.load hh.2.1 (Jl ht.h hh.2.2))),by subst hq;exact h'⟩
theorem np(h:PO P G h0 n0 X K M op v:=by first|(apply fR<;>exact rfl)|(apply zq<;>exact rfl)|(apply Hz 0<;>exact rfl)|(apply Hz 1<;>exact rfl)|(apply Hz 2<;>exact rfl)|(apply Hz 3<;>exact rfl)|(apply Hz 4<;>exact rfl)|(apply Hz 5<;>exact rfl)|(apply Hz 6<;>exact rfl)|(apply Ac 0<;>exact rfl)|(apply Ac 1<;>exact rfl)|(apply Ac 2<;>exact rfl)|(apply Ac 3<;>exact rfl)|(apply Ac 4<;>exact rfl)|(apply Ac 5<;>exact rfl)|(apply Ac 6<;>exact rfl)|(apply lI<;>exact rfl)|(apply fQ<;>exact rfl)|(apply lJ<;>exact rfl)|(apply fP<;>exact rfl)|(apply lB<;>exact rfl)|(apply lE<;>exact rfl)|(apply lG<;>exact rfl)|(apply lF<;>exact rfl)|(apply lH<;>exact rfl)|(apply lL<;>exact rfl)|(apply lD<;>exact rfl)|(apply lK<;>exact rfl)|(apply lC<;>exact rfl)|(apply lM;exact rfl;exact rfl;omega;omega)|(apply lA;exact rfl;exact rfl;omega;omega)|(apply fS<;>exact rfl)|(apply wG<;>exact rfl)):PO P G h0 n0 X K M op v:=h
theorem au(j:Nat){T:Tr AV}{st:St}(hK:Jn K T)(hM:Mem h0 n0 X st M)(hn:g')(h:To (SG j (fun _=>True) h0 n0 X K M (F)) g':=by
 repeat' first
  |with_reducible refine' ye ?_
  |with_reducible refine' aA ?_
  |with_reducible refine' ax ?_
  |with_reducible refine' ay ?_
  |with_reducible refine' Mn ?_
  |with_reducible refine' yf ?_
  |with_reducible refine' Mm ?_
  |with_reducible refine' DU ?_
  |((first|with_reducible refine' o7 ?_ ?_ ?_|with_reducible refine' o8 ?_ ?_ ?_);(any_goals exact np);any_goals first|exact rfl|exact⟨rfl,rfl,rfl⟩)
  |((with_reducible refine' kK ?_ ?_);any_goals exact⟨rfl,rfl,rfl,rfl⟩)
  |((with_reducible refine' az ?_ ?_);any_goals exact⟨rfl,rfl,rfl⟩)
  |((with_reducible refine' kL ?_ ?_);any_goals exact rfl)
  |((with_reducible refine' kM ?_ ?_);any_goals exact rfl)
  |((with_reducible refine' ER 0 ?_ ?_);any_goals exact⟨rfl,rfl,rfl,rfl,rfl,rfl⟩)
  |((with_reducible refine' ER 1 ?_ ?_);any_goals exact⟨rfl,rfl,rfl,rfl,rfl,rfl⟩)
  |((with_reducible refine' ER 2 ?_ ?_);any_goals exact⟨rfl,rfl,rfl,rfl,rfl,rfl⟩)
  |((with_reducible refine' ER 3 ?_ ?_);any_goals exact⟨rfl,rfl,rfl,rfl,rfl,rfl⟩)
  |((with_reducible refine' ER 4 ?_ ?_);any_goals exact⟨rfl,rfl,rfl,rfl,rfl,rfl⟩)
  |((with_reducible refine' ER 5 ?_ ?_);any_goals exact⟨rfl,rfl,rfl,rfl,rfl,rfl⟩)
  |((with_reducible refine' ER 6 ?_ ?_);any_goals exact⟨rfl,rfl,rfl,rfl,rfl,rfl⟩)
  |((with_reducible refine' vZ ?_ fun _=>?_);any_goals exact rfl)
  |((with_reducible refine' nM ?_ fun _=>?_);any_goals exact⟨rfl,rfl,rfl,rfl,rfl⟩)
  |((with_reducible refine' kN ?_ ?_ fun _=>?_);(any_goals exact⟨rfl,rfl⟩);any_goals(intro(_:True);(repeat first|exact rfl|assumption|refine Qa ?_ ?_);done))
  |with_reducible exact fx):F T st:=h hn T st hK trivial hM
theorem Qg(j:Nat){T:Tr AV}{st:St}(hK:Jn K T)(hM:Mem h0 n0 X st M)(hn:g')(h:To (SG j (fun s=>s=st) h0 n0 X K M (F)) g':=by
 repeat' first
  |with_reducible refine' ye ?_
  |with_reducible refine' aA ?_
  |with_reducible refine' ax ?_
  |with_reducible refine' ay ?_
  |with_reducible refine' Mn ?_
  |with_reducible refine' yf ?_
  |with_reducible refine' Mm ?_
  |with_reducible refine' DU ?_
  |((first|with_reducible refine' o7 ?_ ?_ ?_|with_reducible refine' o8 ?_ ?_ ?_);(any_goals exact np);any_goals first|exact rfl|exact⟨rfl,rfl,rfl⟩)
  |((with_reducible refine' kK ?_ ?_);any_goals exact⟨rfl,rfl,rfl,rfl⟩)
  |((with_reducible refine' az ?_ ?_);any_goals exact⟨rfl,rfl,rfl⟩)
  |((with_reducible refine' kL ?_ ?_);any_goals exact rfl)
  |((with_reducible refine' kM ?_ ?_);any_goals exact rfl)
  |with_reducible refine' nH ?_
  |with_reducible refine' nI ?_
  |((with_reducible refine' nK ?_ ?_);any_goals exact rfl)
  |((with_reducible refine' nJ ?_ ?_);(any_goals exact rfl);any_goals exact⟨rfl,rfl⟩)
  |((with_reducible refine' fw 0 ?_ ?_ ?_);(any_goals exact rfl);(any_goals infer_instance);any_goals exact⟨rfl,rfl,rfl⟩)
  |((with_reducible refine' fw 1 ?_ ?_ ?_);(any_goals exact rfl);(any_goals infer_instance);any_goals exact⟨rfl,rfl,rfl⟩)
  |((with_reducible refine' fw 2 ?_ ?_ ?_);(any_goals exact rfl);(any_goals infer_instance);any_goals exact⟨rfl,rfl,rfl⟩)
  |with_reducible exact vX):F T st:=h hn T st hK rfl hM
def DG(P:Program)(G:Env)(N:Nat)(h0:Hp)(n0:Nat)(X:List Nat)(M:List (Nat×Nat×List AV))(st:St)(sn:List St)(ops:List Oper)(R:Tr AV→St→Prop)(j:Nat)(w:List (Nat×Nat))(K:List (Nat×AV)):Prop:=Mem h0 n0 X st M→ ∀T,Jn K T→WD P G N ops (w.map (ZP ops)) R T st sn
theorem oM(ho:ops[i]? =some (⟨some d,op,ty,pos,af,none⟩))(hp:PO P G h0 n0 X K M op v)(hh:Nat.beq (QH P op) 3=false∧Nat.ble (d+1) N=true)(h:To (DG P G N h0 n0 X M st sn ops R j w ((d,v)::K)) g'):To (DG P G N h0 n0 X M st sn ops R (j+1) ((i,0)::w) K) g':=fun h' hM T hK=>d1 ho hK (hp.h st hM) hh.1 hh.2 fun T' hK'=>h h' hM T' hK'
theorem nL(ho:ops[i]? =some (⟨some d,op,ty,pos,af,some (jj,pol)⟩))(hp:PO P G h0 n0 X K M op v)(hh:YY ops jj=some tt∧K.lookup tt=some (.bool pol)∧Nat.beq (QH P op) 3=false∧Nat.ble (d+1) N=true)(h:To (DG P G N h0 n0 X M st sn ops R j w ((d,v)::K)) g'):To (DG P G N h0 n0 X M st sn ops R (j+1) ((i,0)::w) K) g':=fun h' hM T hK=>dg ho hK hh.1 hh.2.1 (hp.h st hM) hh.2.2.1 hh.2.2.2 fun T' hK'=>h h' hM T' hK'
theorem vY:To (DG P G N h0 n0 X M st sn ops R i w K) (∀T,Jn K T→WD P G N ops (w.map (ZP ops)) R T st sn):=fun h _=>h
theorem Ue(j:Nat){T:Tr AV}(hK:Jn K T)(hM:Mem h0 n0 X st M)(hn:g')(h:To (DG P G N h0 n0 X M st sn ops R j w K) g':=by
 repeat' first
  |((first|with_reducible refine' oM ?_ ?_ ?_ ?_);(any_goals exact rfl);(any_goals exact np);any_goals exact⟨rfl,rfl⟩)
  |((with_reducible refine' nL ?_ ?_ ?_ ?_);(any_goals exact rfl);(any_goals exact np);any_goals exact⟨rfl,rfl,rfl,rfl⟩)
  |with_reducible exact vY):WD P G N ops (w.map (ZP ops)) R T st sn:=h hn hM T hK
end
section
variable {P:Program} {G:Env} {N:Nat} {h0:Hp} {n0:Nat} {X:List Nat} {K:List (Nat×AV)} {M:List (Nat×Nat×List AV)} {ops rest:List Oper} {R:Tr AV→St→Prop} {Q:Ex→Tr AV→St→Prop} {d:Nat} {ty:TypeId} {pos:String} {af:Array Edge} {T:Tr AV} {st:St}
theorem WU{a b:Code}{p:Prop} [Decidable p](hK:Jn K T)(hg:JM G K g=some (.bool (decide p)))(ha:p→W P G N a Q T st)(hb: ¬p→W P G N b Q T st):W P G N (.cond g a b) Q T st:=Wf (hK.Ul hg) (fun h=>ha (of_decide_eq_true h)) fun h=>hb (of_decide_eq_false h)
theorem oL{a b:Code}{p:Prop} [Decidable p](hK:Jn K T)(hg:JM G K g=some (.bool (!decide p)))(ha: ¬p→W P G N a Q T st)(hb:p→W P G N b Q T st):W P G N (.cond g a b) Q T st:=Wf (hK.Ul hg) (fun h=>ha (by simpa using h)) fun h=>hb (by simpa using h)
theorem oQ{args:Array Operand}{tys:Array TypeId}{l:List AV}{u:AV}(hK:Jn K T)(hM:Mem h0 n0 X st M)(h: ∃v st',Ev P G f l st v st'∧v=u∧Qt st st')(ha:Yc (JM G K) args.toList=some l)(hN:Nat.ble (d+1) N=true)(hn: ∀T' st',Jn ((d,u)::K) T'→Mem h0 n0 X st' M→WR P G N ops rest R T' st'):
  WR P G N ops (⟨some d,.call {callee:=.value (.func f),args:=args,argTypes:=tys},ty,pos,af,none⟩::rest) R T st:=by
 obtain⟨v,st',ev,rfl,q⟩:=h;exact o1 hK (Qh ha ev) hN fun T' hK'=>hn T' st' hK' (hM.quiet q)
theorem oR{args:Array Operand}{tys:Array TypeId}{l:List AV}{u:AV}(k:Nat){c m m':Nat}{r r':List AV}(hK:Jn K T)(hM:Mem h0 n0 X st M)(h: ∃v st',Ev P G f l st v st'∧v=u∧EJ [c] st st'∧J5 st'.h.get c m' r')(hk:M[k]? =some (c,m,r))(ha:Yc (JM G K) args.toList=some l)(hN:Nat.ble (d+1) N=true)(hn: ∀T' st',Jn ((d,u)::K) T'→Mem h0 n0 X st' (M.set k (c,m',r'))→WR P G N ops rest R T' st'):
  WR P G N ops (⟨some d,.call {callee:=.value (.func f),args:=args,argTypes:=tys},ty,pos,af,none⟩::rest) R T st:=by
 obtain⟨v,st',ev,rfl,q,w⟩:=h;exact o1 hK (Qh ha ev) hN fun T' hK'=>hn T' st' hK' (hM.Yl hk q w)
theorem oj{fn:Func}{c:Code}{N:Nat}{rs:List ResultVar}{args:List AV}{Q:AV→St→Prop}(hs:G.s f=none)(hf:P.funcs[f]? =some fn)(hb:fn.body=some c)(hN:fn.ntmps=N)(hr:fn.results.toList=rs)
 (h: ∀T,(∀t,Zc T t=(args[t]?).getD (.tup []))→W P G N c (fun x T st=>(x=.nor∨x=.ret)∧ ∃v,JG P rs T st=some v∧Q v st) T st) (hname:(fn.name== "runtime.NumGoroutine")=false:=by decide) (hl:args.length≤N:=by simp): ∃v st',Ev P G f args st v st'∧Q v st':=aN hs hf hb hN hr hname hl h
theorem rt1{t:Nat}{v:AV}(hK:Jn K T)(h:K.lookup t=some v):JG P [.tmp t] T st=some v:=Nj (JX hK h)
theorem rt2{t s:Nat}{u v:AV}(hK:Jn K T)(h:K.lookup t=some u)(h':K.lookup s=some v):JG P [.tmp t,.tmp s] T st=some (.tup [u,v]):=Xo (JX hK h) (JX hK h')
theorem ja{a:Nat}{t:TypeId}{l r:List AV} [ht:TA P t n](k:Nat){c m off:Nat}(hK:Jn K T)(hM:Mem h0 n0 X st M)(h:K.lookup a=some (.ptr c m off))(hk:M[k]? =some (c,m,l))(hl:WK n (EA off l) (fun r=>some (AV.agg r))=some (.agg r)):JG P [.cell a t] T st=some (.agg r):=Nj (Zh hK h (hM.load hk (Jl ht.h hl)))
theorem oP{op:Op}{p:Prop} [Decidable p](hK:Jn K T)(h:Z6 P G K op st (.bool (decide p)) st)(hN:Nat.ble (d+1) N=true)(hf: ∀T',¬p→Jn ((d,.bool false)::K) T'→WR P G N ops rest R T' st)(ht: ∀T',p→Jn ((d,.bool true)::K) T'→WR P G N ops rest R T' st):WR P G N ops (⟨some d,op,ty,pos,af,none⟩::rest) R T st:=oB hK h hN (fun b T' e K'=>by cases b;exact hf T' (of_decide_eq_false e) K';exact ht T' (of_decide_eq_true e) K')
theorem oS{op:Op}{p:Prop} [Decidable p](hK:Jn K T)(h:Z6 P G K op st (.bool (!decide p)) st)(hN:Nat.ble (d+1) N=true)(hf: ∀T',p→Jn ((d,.bool false)::K) T'→WR P G N ops rest R T' st)(ht: ∀T',¬p→Jn ((d,.bool true)::K) T'→WR P G N ops rest R T' st):WR P G N ops (⟨some d,op,ty,pos,af,none⟩::rest) R T st:=oB hK h hN (fun b T' e K'=>by cases b;exact hf T' ((by simpa using e)) K';exact ht T' ((by simpa using e)) K')
theorem nY{op:Op}{p:Prop} [Decidable p](hK:Jn K T)(hd:YY ops jj=some tt)(hb:K.lookup tt=some (.bool pol))(h:Z6 P G K op st (.bool (decide p)) st)(hN:Nat.ble (d+1) N=true)(hf: ∀T',¬p→Jn ((d,.bool false)::K) T'→WR P G N ops rest R T' st)(ht: ∀T',p→Jn ((d,.bool true)::K) T'→WR P G N ops rest R T' st):WR P G N ops (⟨some d,op,ty,pos,af,some (jj,pol)⟩::rest) R T st:=uC hK hd hb h hN (fun b T' e K'=>by cases b;exact hf T' (of_decide_eq_false e) K';exact ht T' (of_decide_eq_true e) K')
theorem oO{op:Op}{p:Prop} [Decidable p](hK:Jn K T)(hd:YY ops jj=some tt)(hb:K.lookup tt=some (.bool pol))(h:Z6 P G K op st (.bool (!decide p)) st)(hN:Nat.ble (d+1) N=true)(hf: ∀T',p→Jn ((d,.bool false)::K) T'→WR P G N ops rest R T' st)(ht: ∀T',¬p→Jn ((d,.bool true)::K) T'→WR P G N ops rest R T' st):WR P G N ops (⟨some d,op,ty,pos,af,some (jj,pol)⟩::rest) R T st:=uC hK hd hb h hN (fun b T' e K'=>by cases b;exact hf T' ((by simpa using e)) K';exact ht T' ((by simpa using e)) K')
theorem No{x:Operand}{p:Prop} [Decidable p](hK:Jn K T)(hx:JM G K x=some (.bool (decide p)))(hf: ∀T',¬p→Jn ((d,.bool false)::K) T'→WR P G N ops rest R T' st)(ht: ∀T',p→Jn ((d,.bool true)::K) T'→WR P G N ops rest R T' st)(hN:Nat.ble (d+1) N=true:=by exact rfl):WR P G N ops (⟨some d,.move x,ty,pos,af,none⟩::rest) R T st:=oP hK (Q7 hx) hN hf ht
theorem nX{x:Operand}{p:Prop} [Decidable p](hK:Jn K T)(hx:JM G K x=some (.bool (!decide p)))(hf: ∀T',p→Jn ((d,.bool false)::K) T'→WR P G N ops rest R T' st)(ht: ∀T',¬p→Jn ((d,.bool true)::K) T'→WR P G N ops rest R T' st)(hN:Nat.ble (d+1) N=true:=by exact rfl):WR P G N ops (⟨some d,.move x,ty,pos,af,none⟩::rest) R T st:=oS hK (Q7 hx) hN hf ht
theorem oH{op:Op}{p:Prop} [Decidable p](ho:ops[i]? =some (⟨some d,op,ty,pos,af,none⟩))(hK:Jn K T)(h:Z6 P G K op st (.bool (decide p)) st)(hk:Nat.beq (QH P op) 3=false)(hN:Nat.ble (d+1) N=true)(hf: ∀T',¬p→Jn ((d,.bool false)::K) T'→WD P G N ops (w.map (ZP ops)) R T' st sn)(ht: ∀T',p→Jn ((d,.bool true)::K) T'→WD P G N ops (w.map (ZP ops)) R T' st sn):WD P G N ops (((i,0)::w).map (ZP ops)) R T st sn:=dB ho hK h hk hN (fun b T' e K'=>by cases b;exact hf T' (of_decide_eq_false e) K';exact ht T' (of_decide_eq_true e) K')
theorem oW{op:Op}{p:Prop} [Decidable p](ho:ops[i]? =some (⟨some d,op,ty,pos,af,none⟩))(hK:Jn K T)(h:Z6 P G K op st (.bool (!decide p)) st)(hk:Nat.beq (QH P op) 3=false)(hN:Nat.ble (d+1) N=true)(hf: ∀T',p→Jn ((d,.bool false)::K) T'→WD P G N ops (w.map (ZP ops)) R T' st sn)(ht: ∀T',¬p→Jn ((d,.bool true)::K) T'→WD P G N ops (w.map (ZP ops)) R T' st sn):WD P G N ops (((i,0)::w).map (ZP ops)) R T st sn:=dB ho hK h hk hN (fun b T' e K'=>by cases b;exact hf T' ((by simpa using e)) K';exact ht T' ((by simpa using e)) K')
def iY:Nat→List AV→List (Nat×AV)
 |_,[]=>[]
 |i,v::l=>(i,v)::iY (i+1) l
theorem qk: ∀(l:List AV) (i:Nat),(∀t,i≤t→Zc T t=(l[t-i]?).getD (.tup []))→Jn (iY i l) T
 |[],_,_=>.nil
 |v::l,i,h=>.cons (by have:=h i (Nat.le_refl _);rwa [Nat.sub_self]at this) (qk l (i+1) fun t ht=>by
  have:=h t Qk;rw[show t-i=t-(i+1)+1 by omega]at this
  exact this)
theorem XB{fn:Func}{c:Code}{N:Nat}{args:List AV}{Q:AV→St→Prop}(hf:P.funcs[f]? =some fn)(hN:fn.ntmps=N)
 (h: ∀T,Jn (iY 0 args) T→W P G N c (fun x T st=>(x=.nor∨x=.ret)∧ ∃v,JG P fn.results.toList T st=some v∧Q v st) T st) (hs:G.s f=none:=by rfl) (hb:fn.body=some c:=by rfl) (hname:(fn.name== "runtime.NumGoroutine")=false:=by decide) (hl:args.length≤N:=by simp): ∃v st',Ev P G f args st v st'∧Q v st':=aN hs hf hb hN rfl hname hl fun T hT=>h T (qk args 0 fun t _=>hT t)
theorem oI{x i:Operand}{t:TypeId}{k:IntKind}{v:AV}{z j:Nat}(hR:Ja st.h.get Y z ls ks)(hi:ls[j]? =some cs)(hK:Jn K T)(he:Y5 P t=some z)(ht:tk P t'=.one)(hx:JM G K x=some ks)(hy:JM G K i=some (.int k (j:Int)))(hv:cs[0]? =some v)(hn: ∀c m o T',Jn ((d2,v)::(d,.ptr c m o)::K) T'→WR P G N ops rest R T' st)(hN:Nat.ble (d+1) N=true:=by exact rfl)(hN2:Nat.ble (d2+1) N=true:=by exact rfl):WR P G N ops (⟨some d,.indexAddr t x i,ty,pos,af,none⟩::⟨some d2,.load t' (.tmp d),ty2,pos2,af2,none⟩::rest) R T st:=by
 obtain⟨c,m,off,rfl,_,la,lo,_⟩:=hR.load (P:=P) hi;exact o1 hK (Qp he hx hy (List.getElem?_eq_some_iff.1 hi).1) hN fun T' K'=>o1 K' (QK (show JM G (_::K) (.tmp d)=_ by show List.lookup d _=_;rw[List.lookup_cons];simp) (lo _ 0 _ ht hv)) hN2 fun T'' K''=>hn _ _ _ _ K''
theorem dI{x i:Operand}{t:TypeId}{k:IntKind}{v:AV}{z j:Nat}{i1 i2:Nat}{r:List (Nat×Nat)}(ho:ops[i1]? =some ⟨some d,.indexAddr t x i,ty,pos,af,none⟩)(ho2:ops[i2]? =some ⟨some d2,.load t' (.tmp d),ty2,pos2,af2,none⟩)(hR:Ja st.h.get Y z ls ks)(hi:ls[j]? =some cs)(hK:Jn K T)(he:Y5 P t=some z)(ht:tk P t'=.one)(hx:JM G K x=some ks)(hy:JM G K i=some (.int k (j:Int)))(hv:cs[0]? =some v)(hn: ∀c m o T',Jn ((d2,v)::(d,.ptr c m o)::K) T'→WD P G N ops (r.map (ZP ops)) R T' st sn)(hN:Nat.ble (d+1) N=true:=by exact rfl)(hN2:Nat.ble (d2+1) N=true:=by exact rfl):WD P G N ops (((i1,0)::(i2,0)::r).map (ZP ops)) R T st sn:=by
 obtain⟨c,m,off,rfl,_,la,lo,_⟩:=hR.load (P:=P) hi;exact d1 ho hK (Qp he hx hy (List.getElem?_eq_some_iff.1 hi).1) rfl hN fun T' K'=>d1 ho2 K' (QK (show JM G (_::K) (.tmp d)=_ by show List.lookup d _=_;rw[List.lookup_cons];simp) (lo _ 0 _ ht hv)) rfl hN2 fun T'' K''=>hn _ _ _ _ K''
theorem aJ{x i:Operand}{t:TypeId}{k:IntKind}{z j:Nat}(hR:Ja st.h.get Y z ls ks)(hi:ls[j]? =some cs)(hK:Jn K T)(he:Y5 P t=some z)(ht:tk P t'=.agg z)(hx:JM G K x=some ks)(hy:JM G K i=some (.int k (j:Int)))(hn: ∀c m o T',Jn ((d2,.agg cs)::(d,.ptr c m o)::K) T'→WR P G N ops rest R T' st)(hN:Nat.ble (d+1) N=true:=by exact rfl)(hN2:Nat.ble (d2+1) N=true:=by exact rfl):WR P G N ops (⟨some d,.indexAddr t x i,ty,pos,af,none⟩::⟨some d2,.load t' (.tmp d),ty2,pos2,af2,none⟩::rest) R T st:=by
 obtain⟨c,m,off,rfl,_,la,lo,_⟩:=hR.load (P:=P) hi;exact o1 hK (Qp he hx hy (List.getElem?_eq_some_iff.1 hi).1) hN fun T' K'=>o1 K' (QK (show JM G (_::K) (.tmp d)=_ by show List.lookup d _=_;rw[List.lookup_cons];simp) (la _ ht)) hN2 fun T'' K''=>hn _ _ _ _ K''
theorem iT{x i:Operand}{t:TypeId}{k:IntKind}{z j:Nat}{i1 i2:Nat}{r:List (Nat×Nat)}(ho:ops[i1]? =some ⟨some d,.indexAddr t x i,ty,pos,af,none⟩)(ho2:ops[i2]? =some ⟨some d2,.load t' (.tmp d),ty2,pos2,af2,none⟩)(hR:Ja st.h.get Y z ls ks)(hi:ls[j]? =some cs)(hK:Jn K T)(he:Y5 P t=some z)(ht:tk P t'=.agg z)(hx:JM G K x=some ks)(hy:JM G K i=some (.int k (j:Int)))(hn: ∀c m o T',Jn ((d2,.agg cs)::(d,.ptr c m o)::K) T'→WD P G N ops (r.map (ZP ops)) R T' st sn)(hN:Nat.ble (d+1) N=true:=by exact rfl)(hN2:Nat.ble (d2+1) N=true:=by exact rfl):WD P G N ops (((i1,0)::(i2,0)::r).map (ZP ops)) R T st sn:=by
 obtain⟨c,m,off,rfl,_,la,lo,_⟩:=hR.load (P:=P) hi;exact d1 ho hK (Qp he hx hy (List.getElem?_eq_some_iff.1 hi).1) rfl hN fun T' K'=>d1 ho2 K' (QK (show JM G (_::K) (.tmp d)=_ by show List.lookup d _=_;rw[List.lookup_cons];simp) (la _ ht)) rfl hN2 fun T'' K''=>hn _ _ _ _ K''
theorem Zb{a b:Code}{t:Bool}(hK:Jn K T)(hg:JM G K g=some (.bool t))(ha:t=true→W P G N a Q T st)(hb:t=false→W P G N b Q T st):W P G N (.cond g a b) Q T st:=Wf (hK.Ul hg) ha hb
theorem p1{op:Op}{v:AV}(hK:Jn K T)(h:Z6 P G K op st v st1)(hn: ∀T',Jn ((d,v)::K) T'→WR P G N ops rest R T' st1)(hN:Nat.ble (d+1) N=true:=by exact rfl):WR P G N ops (⟨some d,op,ty,pos,af,none⟩::rest) R T st:=o1 hK h hN hn
theorem pg{j t:Nat}{op:Op}{v:AV}(hK:Jn K T)(ht:YY ops j=some t)(hb:K.lookup t=some (.bool pol))(h:Z6 P G K op st v st1)(hn: ∀T',Jn ((d,v)::K) T'→WR P G N ops rest R T' st1)(hN:Nat.ble (d+1) N=true:=by exact rfl):WR P G N ops (⟨some d,op,ty,pos,af,some (j,pol)⟩::rest) R T st:=og hK ht hb h hN hn
theorem q1{r:List (Nat×Nat)}{op:Op}{v:AV}(ho:ops[i]? =some ⟨some d,op,ty,pos,af,none⟩)(hK:Jn K T)(h:Z6 P G K op st v st1)(hn: ∀T',Jn ((d,v)::K) T'→WD P G N ops (r.map (ZP ops)) R T' st1 sn)(hk:Nat.beq (QH P op) 3=false:=by exact rfl)(hN:Nat.ble (d+1) N=true:=by exact rfl):WD P G N ops (((i,0)::r).map (ZP ops)) R T st sn:=d1 ho hK h hk hN hn
theorem qA{r:List (Nat×Nat)}{op:Op}{v:AV}(ho:ops[i]? =some ⟨some d,op,ty,pos,af,none⟩)(hK:Jn K T)(h:Z6 P G K op st v st1)(hn: ∀T',Jn ((d,v)::K) T'→WD P G N ops (r.map (ZP ops)) R T' st1 (st1::sn))(hk:Nat.beq (QH P op) 3=true:=by exact rfl)(hN:Nat.ble (d+1) N=true:=by exact rfl):WD P G N ops (((i,0)::r).map (ZP ops)) R T st sn:=dA ho hK h hk hN hn
end
end Go.Proofs.YthjgndgnmkiaiaaGreatDoor
