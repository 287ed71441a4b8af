/-
  Straight runs of operations in one step.
-/
import Derived.Test.YtmgkfceomhagaaaGreatDoorPsTyg
namespace Go.Proofs.YtmgkfceomhagaaaGreatDoor
open Go Go.RowKit
set_option linter.unusedVariables false
set_option linter.unusedSectionVars false
variable {F:Tr AV→St→Prop} {Y:List Nat} {af2:Array Edge} {cs:List AV} {d2 i id jj n t1 tt:Nat} {f:FuncId} {g:Operand} {ks:AV} {ls:List (List AV)} {pol:Bool} {pos2:String} {sn:List St} {st1:St} {t' ty2:TypeId} {w:List (Nat×Nat)}

class FO(P:Program)(t:TypeId)(f:Nat)(o:outParam Nat):Prop where
 h:Jw P t f=some o
class T1(P:Program)(t:TypeId):Prop where
 h:tk P t=.one
class TA(P:Program)(t:TypeId)(n:outParam Nat):Prop where
 h:tk P t=.agg n
class ZE(P:Program)(t:TypeId)(l:outParam (List AV)):Prop where
 h:zeroOf P t=some l
class SZ(P:Program)(t:TypeId)(n:outParam Nat):Prop where
 h:Xz P t=some n
class UL(P:Program)(t:TypeId):Prop where
 h: ∃e,P.underlying t=some (.slice e)
class ST(P:Program)(t:TypeId)(tbl:outParam (List (Nat×Nat)))(z:outParam (List AV)):Prop where
 h:zn P t tbl z
class SL(P:Program)(t:TypeId)(e:outParam TypeId)(z:outParam Nat):Prop where
 h:Gh P t e z
instance :FO Tryz.prog 24 0 0:=⟨Ha⟩
instance :FO Tryz.prog 24 1 1:=⟨Gc⟩
instance :FO Tryz.prog 24 2 2:=⟨Gb⟩
instance :FO Tryz.prog 24 3 3:=⟨Ga⟩
instance :FO Tryz.prog 24 4 4:=⟨OZ⟩
instance :FO Tryz.prog 31 0 0:=⟨OW⟩
instance :FO Tryz.prog 31 1 1:=⟨OV⟩
instance :FO Tryz.prog 31 2 2:=⟨OU⟩
instance :FO Tryz.prog 59 1 1:=⟨OY⟩
instance :FO Tryz.prog 59 2 2:=⟨OX⟩
instance :FO Tryz.prog 65 0 0:=⟨Oj⟩
instance :FO Tryz.prog 65 1 1:=⟨Oi⟩
instance :FO Tryz.prog 65 2 2:=⟨Oh⟩
instance :FO Tryz.prog 65 3 3:=⟨Og⟩
instance :FO Tryz.prog 85 0 0:=⟨AD⟩
instance :FO Tryz.prog 85 1 1:=⟨AB⟩
instance :FO Tryz.prog 85 2 2:=⟨AA⟩
instance :FO Tryz.prog 85 3 3:=⟨A4⟩
instance :FO Tryz.prog 55 0 0:=⟨A3⟩
instance :FO Tryz.prog 55 1 1:=⟨A0⟩
instance :FO Tryz.prog 55 2 2:=⟨Az⟩
instance :FO Tryz.prog 55 3 3:=⟨Ay⟩
instance :FO Tryz.prog 92 0 0:=⟨OT⟩
instance :FO Tryz.prog 92 1 1:=⟨OS⟩
instance :FO Tryz.prog 49 0 0:=⟨IT⟩
instance :FO Tryz.prog 49 1 1:=⟨IS⟩
instance :FO Tryz.prog 49 2 2:=⟨IQ⟩
instance :FO Tryz.prog 49 3 3:=⟨IP⟩
instance :FO Tryz.prog 49 4 4:=⟨IN⟩
instance :T1 Tryz.prog 3:=⟨QK⟩
instance :T1 Tryz.prog 4:=⟨SB⟩
instance :T1 Tryz.prog 9:=⟨QB⟩
instance :T1 Tryz.prog 21:=⟨Ik⟩
instance :T1 Tryz.prog 22:=⟨Jj⟩
instance :TA Tryz.prog 24 5:=⟨Qp⟩
instance :T1 Tryz.prog 28:=⟨Xx⟩
instance :T1 Tryz.prog 29:=⟨Xw⟩
instance :TA Tryz.prog 31 7:=⟨UO⟩
instance :TA Tryz.prog 59 8:=⟨CM⟩
instance :T1 Tryz.prog 44:=⟨W4⟩
instance :TA Tryz.prog 65 4:=⟨U6⟩
instance :T1 Tryz.prog 32:=⟨EK⟩
instance :T1 Tryz.prog 73:=⟨Zb⟩
instance :T1 Tryz.prog 47:=⟨XV⟩
instance :ZE Tryz.prog 5 [.int .u8 0]:=⟨CA⟩
instance :ZE Tryz.prog 9 [.str []]:=⟨Gk⟩
instance :ZE Tryz.prog 24 [.str [],.str [],.int .i64 0,.int .i64 0,.nils]:=⟨Jf⟩
instance :ZE Tryz.prog 31 [.nils,.nils,.str [],.str [],.int .i64 0,.int .i64 0,.nils]:=⟨KW⟩
instance :ZE Tryz.prog 59 [.str [],.nils,.str [],.str [],.int .i64 0,.int .i64 0,.nils,.int .i64 0]:=⟨VE⟩
instance :ZE Tryz.prog 88 [.str [],.int .i64 0,.int .i64 0]:=⟨AE⟩
instance :ZE Tryz.prog 65 [.int .i64 0,.str [],.int .i64 0,.int .i64 0]:=⟨XP⟩
instance :ZE Tryz.prog 85 [.str [],.nils,.int .i64 0,.int .i64 0]:=⟨Wb⟩
instance :ZE Tryz.prog 55 [.nils,.int .i64 0,.int .i64 0,.int .i64 0]:=⟨Wa⟩
instance :ZE Tryz.prog 49 [.nils,.int .i64 0,.bool false,.int .i64 0,.int .i64 0]:=⟨At⟩
instance :SZ Tryz.prog 3 1:=⟨Rj⟩
instance :SZ Tryz.prog 4 1:=⟨z7⟩
instance :SZ Tryz.prog 9 1:=⟨Gv⟩
instance :SZ Tryz.prog 22 1:=⟨OL⟩
instance :SZ Tryz.prog 24 5:=⟨Qx⟩
instance :SZ Tryz.prog 28 1:=⟨V7⟩
instance :SZ Tryz.prog 29 1:=⟨En⟩
instance :SZ Tryz.prog 31 7:=⟨U1⟩
instance :SZ Tryz.prog 59 8:=⟨KZ⟩
instance :SZ Tryz.prog 65 4:=⟨Wj⟩
instance :SZ Tryz.prog 32 1:=⟨Bz⟩
instance :SZ Tryz.prog 73 1:=⟨FT⟩
instance :UL Tryz.prog 22:=⟨_,Jr⟩
instance :ST Tryz.prog 24 [(0,1),(1,1),(2,1),(3,1),(4,1)] [.str [],.str [],.int .i64 0,.int .i64 0,.nils]:=⟨VI⟩
instance :UL Tryz.prog 28:=⟨_,Za⟩
instance :UL Tryz.prog 29:=⟨_,Xv⟩
instance :ST Tryz.prog 31 [(0,1),(1,1),(2,5)] [.nils,.nils,.str [],.str [],.int .i64 0,.int .i64 0,.nils]:=⟨CR⟩
instance :ST Tryz.prog 59 [(0,1),(1,1),(2,5),(7,1)] [.str [],.nils,.str [],.str [],.int .i64 0,.int .i64 0,.nils,.int .i64 0]:=⟨CS⟩
instance :UL Tryz.prog 71:=⟨_,Ec⟩
instance :ST Tryz.prog 88 [(0,1),(1,1),(2,1)] [.str [],.int .i64 0,.int .i64 0]:=⟨CT⟩
instance :UL Tryz.prog 44:=⟨_,W2⟩
instance :ST Tryz.prog 65 [(0,1),(1,1),(2,1),(3,1)] [.int .i64 0,.str [],.int .i64 0,.int .i64 0]:=⟨B5⟩
instance :UL Tryz.prog 73:=⟨_,YZ⟩
instance :ST Tryz.prog 85 [(0,1),(1,1),(2,1),(3,1)] [.str [],.nils,.int .i64 0,.int .i64 0]:=⟨FM⟩
instance :ST Tryz.prog 55 [(0,1),(1,1),(2,1),(3,1)] [.nils,.int .i64 0,.int .i64 0,.int .i64 0]:=⟨Wd⟩
instance :UL Tryz.prog 70:=⟨_,Vz⟩
instance :SL Tryz.prog 22 24 5:=⟨QU⟩
instance :SL Tryz.prog 28 88 3:=⟨YA⟩
instance :SL Tryz.prog 29 59 8:=⟨Xy⟩
instance :SL Tryz.prog 71 9 1:=⟨CW⟩
instance :SL Tryz.prog 44 65 4:=⟨W8⟩
instance :SL Tryz.prog 70 5 1:=⟨Rl⟩
instance :ST Tryz.prog 49 [(0,1),(1,1),(2,1),(3,1),(4,1)] [.nils,.int .i64 0,.bool false,.int .i64 0,.int .i64 0]:=⟨Au⟩
abbrev iZ(z:Int):AV:=.int .i64 z
abbrev iN(n:Nat):AV:=.int .i64 n
def SG(j:Nat)(q:St→Prop)(h0:Hp)(n0:Nat)(X:List Nat)(K:List (Nat×AV))(M:List (Nat×Nat×List AV))(F:Tr AV→St→Prop):Prop:= ∀T st,JC K T→q st→Mem h0 n0 X st M→F T st
def To(g g':Prop):Prop:=g'→g
structure PO(P:Program)(G:Env)(h0:Hp)(n0:Nat)(X:List Nat)(K:List (Nat×AV))(M:List (Nat×Nat×List AV))(op:Op)(v:AV):Prop where
 h: ∀st,Mem h0 n0 X st M→ZS P G K op st v st
section
variable {j:Nat} {q:St→Prop} {P:Program} {G:Env} {N:Nat} {h0:Hp} {n0:Nat} {X:List Nat} {K:List (Nat×AV)} {M:List (Nat×Nat×List AV)} {g':Prop} {ops rest:List Oper} {R:Tr AV→St→Prop} {Q:Ex→Tr AV→St→Prop} {d:Nat} {ty:TypeId} {pos:String} {af:Array Edge} {st:St} {op:Op} {u v:AV} {x y:Operand} {t yt:TypeId} {k:IntKind} {a b:Int} {r l:List AV} {c m off:Nat} {A B:Bool} {tys:Array TypeId} {s z:List Nat}
theorem wB(h:Ut G K x=some v):PO P G h0 n0 X K M (.move x) (v):=⟨fun _ hM=>QH h⟩
theorem jY(h:Ut G K x=some v):PO P G h0 n0 X K M (.assign x) (v):=⟨fun _ hM=>Uv h⟩
theorem Hs [ht:T1 P t](i:Nat)(h:Ut G K x=some (.ptr c m off))(h1:M[i]? =some (c,m,l))(h2:nth l off=some v):PO P G h0 n0 X K M (.load t x) v:=⟨fun _ hM=>Je h (hM.load h1 (Qg ht.h h2))⟩
theorem Ac [ht:TA P t n](i:Nat)(h:Ut G K x=some (.ptr c m off))(h1:M[i]? =some (c,m,l))(h2:W7 n (Ej off l) (fun r=>some (AV.agg r))=some (.agg r)):PO P G h0 n0 X K M (.load t x) (.agg r):=⟨fun _ hM=>Je h (hM.load h1 (QO ht.h h2))⟩
theorem aO{f o:Nat} [ho:FO P t f o](h:Ut G K x=some (.ptr c m off)):PO P G h0 n0 X K M (.fieldAddr t x f) (.ptr c m (off+o)):=⟨fun _ hM=>I4 ho.h h⟩
theorem wA(h:Ut G K x=some (.ptr c m off)):PO P G h0 n0 X K M (.nilCheck x) (.ptr c m off):=⟨fun _ hM=>wE h rfl⟩
theorem aP(h:Ut G K x=some (.tup l))(h':nth l i=some v):PO P G h0 n0 X K M (.extract x i) (v):=⟨fun _ hM=>R9 h h'⟩
theorem w8{w1 w2:Operand}(h:Ut G K x=some (.bool A))(h1:Ut G K w1=some u)(h2:Ut G K w2=some v):PO P G h0 n0 X K M (.pick x w1 w2) (Qs A u v):=⟨fun _ hM=>zY h h1 h2⟩
theorem aH(h:Ut G K x=some (.bool A)):PO P G h0 n0 X K M (.unOp .not t x) (.bool (!A)):=⟨fun _ hM=>R7 h⟩
theorem aK(h:Ut G K x=some (.int k a))(h':Ut G K y=some (.int k b)):PO P G h0 n0 X K M (.binOp .lss t x y yt) (.bool (decide (a<b))):=⟨fun _ hM=>R8 h h'⟩
theorem aM(h:Ut G K x=some (.int k a))(h':Ut G K y=some (.int k b)):PO P G h0 n0 X K M (.binOp .gtr t x y yt) (.bool (decide (b<a))):=⟨fun _ hM=>wI h h'⟩
theorem aL(h:Ut G K x=some (.int k a))(h':Ut G K y=some (.int k b)):PO P G h0 n0 X K M (.binOp .leq t x y yt) (.bool (decide (a≤b))):=⟨fun _ hM=>wH h h'⟩
theorem aN(h:Ut G K x=some (.int k a))(h':Ut G K y=some (.int k b)):PO P G h0 n0 X K M (.binOp .geq t x y yt) (.bool (decide (b≤a))):=⟨fun _ hM=>BK h h'⟩
theorem aR(h:Ut G K x=some (.int k a))(h':Ut G K y=some (.int k b)):PO P G h0 n0 X K M (.binOp .eql t x y yt) (.bool (decide (a=b))):=⟨fun _ hM=>wJ h h'⟩
theorem aJ(h:Ut G K x=some (.int k a))(h':Ut G K y=some (.int k b)):PO P G h0 n0 X K M (.binOp .neq t x y yt) (.bool (!decide (a=b))):=⟨fun _ hM=>wF h h'⟩
theorem aQ(h:Ut G K x=some (.str s))(h':Ut G K y=some (.str z)):PO P G h0 n0 X K M (.binOp .eql t x y yt) (.bool (decide (s=z))):=⟨fun _ hM=>JK h h'⟩
theorem aI(h:Ut G K x=some (.str s))(h':Ut G K y=some (.str z)):PO P G h0 n0 X K M (.binOp .neq t x y yt) (.bool (!decide (s=z))):=⟨fun _ hM=>V1 h h'⟩
theorem aS(h:Ut G K x=some (.int .i64 a))(h':Ut G K y=some (.int .i64 b))(h1: -9223372036854775808≤a+b)(h2:a+b≤9223372036854775807):PO P G h0 n0 X K M (.binOp .add t x y yt) (.int .i64 (a+b)):=⟨fun _ _=>ua h h' h1 h2⟩
theorem aG(h:Ut G K x=some (.int .i64 a))(h':Ut G K y=some (.int .i64 b))(h1: -9223372036854775808≤a-b)(h2:a-b≤9223372036854775807):PO P G h0 n0 X K M (.binOp .sub t x y yt) (.int .i64 (a-b)):=⟨fun _ _=>wD h h' h1 h2⟩
theorem wC [hu:UL P t](h:Ut G K x=some u)(h':Ee u=some n):PO P G h0 n0 X K M (.call {callee:=.builtin .len,args:= #[x],argTypes:= #[t]}) (.int .i64 (n:Int)):=⟨fun _ _=>by obtain⟨e,hu⟩:=hu.h;exact JJ hu rfl h h'⟩
theorem zW{parts:Array (Nat×Operand)}{ps:List (Nat×AV)}{tbl:List (Nat×Nat)}{zz:List AV} [hs:ST P t tbl zz](h:XA (Ut G K) parts=some ps)(h':Wf (nth tbl) ps zz=some r):PO P G h0 n0 X K M (.build t parts) (.agg r):=⟨fun _ hM=>WE hs.h h h'⟩
theorem qV{k:Tr AV→St→Prop}(h:To (SG j q h0 n0 X K M (k)) g'):To (SG j q h0 n0 X K M (Np k Q .nor)) g':=h
theorem vg(h:To (SG j q h0 n0 X K M (Q .nor)) g'):To (SG j q h0 n0 X K M (Cx id Q .nor)) g':=h
theorem vd{a b:Code}(h:To (SG j q h0 n0 X K M (W P G N (a) (Np (W P G N b Q) Q))) g'):To (SG j q h0 n0 X K M (W P G N (.seq a b) Q)) g':=fun h' T st hK hq hM=>Ud (h h' T st hK hq hM)
theorem SE{c:Code}(h:To (SG j q h0 n0 X K M (W P G N (c) (Cx id Q))) g'):To (SG j q h0 n0 X K M (W P G N (.block id c) Q)) g':=fun h' T st hK hq hM=>F3 (h h' T st hK hq hM)
theorem qW(h:To (SG j q h0 n0 X K M (Q .nor)) g'):To (SG j q h0 n0 X K M (W P G N (.skip) Q)) g':=fun h' T st hK hq hM=>Yd (h h' T st hK hq hM)
theorem SD{l:Nat}(h:To (SG j q h0 n0 X K M (Q .nor)) g'):To (SG j q h0 n0 X K M (W P G N (.label l) Q)) g':=fun h' T st hK hq hM=>zp (h h' T st hK hq hM)
theorem CO{l:List Oper}(h:To (SG j q h0 n0 X K M (WR P G N l l (Q .nor))) g'):To (SG j q h0 n0 X K M (W P G N (.region id l.toArray false) Q)) g':=fun h' T st hK hq hM=>Yo (h h' T st hK hq hM)
theorem ve(h:To (SG j q h0 n0 X K M (R)) g'):To (SG j q h0 n0 X K M (WR P G N ops [] R)) g':=fun h' T st hK hq hM=>Xs (h h' T st hK hq hM)
theorem aj{a b:Code}(hg:Ut G K g=some (.bool true))(h:To (SG j q h0 n0 X K M (W P G N (a) Q)) g'):To (SG (j+1) q h0 n0 X K M (W P G N (.cond g a b) Q)) g':=fun h' T st hK hq hM=>Vy (hK.JW hg) (fun _=>h h' T st hK hq hM) (fun e=>by cases e)
theorem ak{a b:Code}(hg:Ut G K g=some (.bool false))(h:To (SG j q h0 n0 X K M (W P G N (b) Q)) g'):To (SG (j+1) q h0 n0 X K M (W P G N (.cond g a b) Q)) g':=fun h' T st hK hq hM=>Vy (hK.JW hg) (fun e=>by cases e) (fun _=>h h' T st hK hq hM)
theorem iQ(hp:PO P G h0 n0 X K M op v)(hN:Nat.ble (d+1) N=true)(h:To (SG j q h0 n0 X ((d,v)::K) M (WR P G N ops rest R)) g'):To (SG (j+1) q h0 n0 X K M (WR P G N ops (⟨some d,op,ty,pos,af,none⟩::rest) R)) g':=fun h' T st hK hq hM=>o1 hK (hp.h st hM) hN fun T' hK'=>h h' T' st hK' hq hM
theorem iR(hp:PO P G h0 n0 X K M op v)(hh:YS ops jj=some tt∧K.lookup tt=some (.bool pol)∧Nat.ble (d+1) N=true)(h:To (SG j q h0 n0 X ((d,v)::K) M (WR P G N ops rest R)) g'):To (SG (j+1) q h0 n0 X K M (WR P G N ops (⟨some d,op,ty,pos,af,some (jj,pol)⟩::rest) R)) g':=fun h' T st hK hq hM=>og hK hh.1 hh.2.1 (hp.h st hM) hh.2.2 fun T' hK'=>h h' T' st hK' hq hM
theorem ai(hh:YS ops jj=some tt∧K.lookup tt=some (.bool A)∧(A==pol)=false∧Nat.ble (d+1) N=true)(h:To (SG j q h0 n0 X ((d,.tup [])::K) M (WR P G N ops rest R)) g'):To (SG (j+1) q h0 n0 X K M (WR P G N ops (⟨some d,op,ty,pos,af,some (jj,pol)⟩::rest) R)) g':=fun h' T st hK hq hM=>gn hK hh.1 hh.2.1 hh.2.2.1 hh.2.2.2 fun T' hK'=>h h' T' st hK' hq hM
theorem vf(hh:YS ops jj=some tt∧K.lookup tt=some (.tup [])∧Nat.ble (d+1) N=true)(h:To (SG j q h0 n0 X ((d,.tup [])::K) M (WR P G N ops rest R)) g'):To (SG (j+1) q h0 n0 X K M (WR P G N ops (⟨some d,op,ty,pos,af,some (jj,pol)⟩::rest) R)) g':=fun h' T st hK hq hM=>kE hK hh.1 hh.2.1 hh.2.2 fun T' hK'=>h h' T' st hK' hq hM
theorem EO [hz:SZ P t n](i:Nat){r':List AV}(hh:Ut G K x=some (.ptr c m off)∧Ut G K y=some v∧M[i]? =some (c,m,r)∧(JU v).length=n∧WT Jn (JU v)=true∧X0 (JU v) off r=some r')(h:To (SG j (fun _=>True) h0 n0 X K (M.set i (c,m,r')) (WR P G N ops rest R)) g'):To (SG (j+1) (fun _=>True) h0 n0 X K M (WR P G N ops (⟨none,.store t x y,ty,pos,af,none⟩::rest) R)) g':=fun h' T st hK _ hM=>QX (k:=i) hK hM hh.1 hh.2.1 hh.2.2.1 hz.h hh.2.2.2.1 hh.2.2.2.2.1 hh.2.2.2.2.2 fun st' hM'=>h h' T st' hK trivial hM'
theorem z6{g:Nat→Prop} [hz:ZE P t l](hN:Nat.ble (d+1) N=true)(h: ∀c,To (SG j (fun _=>True) h0 n0 X ((d,.ptr c 0 0)::K) ((c,0,l)::M) (WR P G N ops rest R)) (g c)):To (SG (j+1) (fun _=>True) h0 n0 X K M (WR P G N ops (⟨some d,.alloc t,ty,pos,af,none⟩::rest) R)) (∀c,g c):=fun h' T st hK _ hM=>Ie hK hM hz.h (Nat.le_of_ble_eq_true hN) fun c T' st' hK' hM'=>h c (h' c) T' st' hK' trivial hM'
theorem al{g:Nat→Prop}(hh:Ut G K x=some v∧Nat.ble (d+1) N=true)(hc:True→WT Jn (JU v)=true)(h: ∀c,To (SG j (fun _=>True) h0 n0 X ((d,.ptr c 0 0)::K) ((c,0,JU v)::M) (WR P G N ops rest R)) (g c)):To (SG (j+1) (fun _=>True) h0 n0 X K M (WR P G N ops (⟨some d,.box t x,ty,pos,af,none⟩::rest) R)) (∀c,g c):=fun h' T st hK _ hM=>Y2 hK hM hh.1 (hc trivial) (Nat.le_of_ble_eq_true hh.2) fun c T' st' hK' hM'=>h c (h' c) T' st' hK' trivial hM'
theorem ic{g:Nat→Prop}{e:TypeId}{len w:Nat}{parts:Array (Nat×Operand)}{ps:List (Nat×AV)} [hs:SL P t e w] [hz:ZE P e l](hh:XA (Ut G K) parts=some ps∧Wf (fun i=>some (i *w,w)) ps (WX len l)=some r∧WT Jn r=true∧Nat.ble (len *w) 16777216=true∧Nat.ble (d+1) N=true)(h: ∀c,To (SG j (fun _=>True) h0 n0 X ((d,.sl c 0 0 len w)::K) ((c,0,r)::M) (WR P G N ops rest R)) (g c)):To (SG (j+1) (fun _=>True) h0 n0 X K M (WR P G N ops (⟨some d,.buildSlice t len parts,ty,pos,af,none⟩::rest) R)) (∀c,g c):=fun h' T st hK _ hM=>AF hK hM hs.h hz.h hh.1 hh.2.1 hh.2.2.1 hh.2.2.2.1 hh.2.2.2.2 fun c T' st' hK' hM'=>h c (h' c) T' st' hK' trivial hM'
theorem vX{g:Prop}:To g g:=id
theorem zx:To (SG j (fun s=>s=st) h0 n0 X K M (F)) (∀T,JC K T→F T st):=fun h T _ hK hq hM=>hq▸h T hK
theorem fY{k:Tr AV→St→Prop}(h:To (SG j q h0 n0 X K M (W P G N (.ret) Q)) g'):To (SG j q h0 n0 X K M (W P G N (.ret) (Np k Q))) g':=fun h' T st hK hq hM=>JX (by have h2:=h h' T st hK hq hM;obtain⟨L,n,x,T',st',h3,h4⟩:=h2;injection h3 with h3;injection h3 with h5 h6;injection h6 with h6 h7;subst h5 h6 h7;exact h4)
theorem fZ(h:To (SG j q h0 n0 X K M (W P G N (.ret) Q)) g'):To (SG j q h0 n0 X K M (W P G N (.ret) (Cx id Q))) g':=fun h' T st hK hq hM=>JX (by have h2:=h h' T st hK hq hM;obtain⟨L,n,x,T',st',h3,h4⟩:=h2;injection h3 with h3;injection h3 with h5 h6;injection h6 with h6 h7;subst h5 h6 h7;exact h4)
theorem ia{Z:AV→St→Prop}{rs:List ResultVar}(hr:rs=[.tmp t1])(hh:K.lookup t1=some v):To (SG j (fun s=>s=st) h0 n0 X K M (W P G N (.ret) (fun x T s=>(x=.nor∨x=.ret)∧ ∃v,JF P rs T s=some v∧Z v s))) (Z v st):=fun h' T s hK hq hM=>JX ⟨.inr rfl,_,by rw[hr];exact LK (J6 hK hh),by subst hq;exact h'⟩
theorem hH{t2:Nat}{Z:AV→St→Prop}{rs:List ResultVar}(hr:rs=[.tmp t1,.tmp t2])(hh:K.lookup t1=some u∧K.lookup t2=some v):To (SG j (fun s=>s=st) h0 n0 X K M (W P G N (.ret) (fun x T s=>(x=.nor∨x=.ret)∧ ∃v,JF P rs T s=some v∧Z v s))) (Z (.tup [u,v]) st):=fun h' T s hK hq hM=>JX ⟨.inr rfl,_,by rw[hr];exact X4 (J6 hK hh.1) (J6 hK hh.2),by subst hq;exact h'⟩
theorem vW{Z:AV→St→Prop}{rs:List ResultVar}(i:Nat)(ht:TA P t n)(hr:rs=[.cell t1 t])(hh:K.lookup t1=some (.ptr c m off)∧M[i]? =some (c,m,l)∧W7 n (Ej off l) (fun r=>some (AV.agg r))=some (.agg r)):To (SG j (fun s=>s=st) h0 n0 X K M (W P G N (.ret) (fun x T s=>(x=.nor∨x=.ret)∧ ∃v,JF P rs T s=some v∧Z v s))) (Z (.agg r) st):=fun h' T s hK hq hM=>JX ⟨.inr rfl,_,by rw[hr];exact LK (UU hK hh.1 (hM.load hh.2.1 (QO ht.h hh.2.2))),by subst hq;exact h'⟩
theorem fN(h:PO P G h0 n0 X K M op v:=by first|(apply wB<;>exact rfl)|(apply jY<;>exact rfl)|(apply Hs 0<;>exact rfl)|(apply Hs 1<;>exact rfl)|(apply Hs 2<;>exact rfl)|(apply Hs 3<;>exact rfl)|(apply Hs 4<;>exact rfl)|(apply Hs 5<;>exact rfl)|(apply Hs 6<;>exact rfl)|(apply Ac 0<;>exact rfl)|(apply Ac 1<;>exact rfl)|(apply Ac 2<;>exact rfl)|(apply Ac 3<;>exact rfl)|(apply Ac 4<;>exact rfl)|(apply Ac 5<;>exact rfl)|(apply Ac 6<;>exact rfl)|(apply aO<;>exact rfl)|(apply wA<;>exact rfl)|(apply aP<;>exact rfl)|(apply w8<;>exact rfl)|(apply aH<;>exact rfl)|(apply aK<;>exact rfl)|(apply aM<;>exact rfl)|(apply aL<;>exact rfl)|(apply aN<;>exact rfl)|(apply aR<;>exact rfl)|(apply aJ<;>exact rfl)|(apply aQ<;>exact rfl)|(apply aI<;>exact rfl)|(apply aS;exact rfl;exact rfl;omega;omega)|(apply aG;exact rfl;exact rfl;omega;omega)|(apply wC<;>exact rfl)|(apply zW<;>exact rfl)):PO P G h0 n0 X K M op v:=h
theorem au(j:Nat){T:Tr AV}{st:St}(hK:JC K T)(hM:Mem h0 n0 X st M)(hn:g')(h:To (SG j (fun _=>True) h0 n0 X K M (F)) g':=by
 repeat' first
  |with_reducible refine' qV ?_
  |with_reducible refine' vg ?_
  |with_reducible refine' vd ?_
  |with_reducible refine' ve ?_
  |with_reducible refine' SE ?_
  |with_reducible refine' qW ?_
  |with_reducible refine' SD ?_
  |with_reducible refine' CO ?_
  |((first|with_reducible refine' iQ ?_ ?_ ?_|with_reducible refine' iR ?_ ?_ ?_);(any_goals exact fN);any_goals first|exact rfl|exact⟨rfl,rfl,rfl⟩)
  |((with_reducible refine' ai ?_ ?_);any_goals exact⟨rfl,rfl,rfl,rfl⟩)
  |((with_reducible refine' vf ?_ ?_);any_goals exact⟨rfl,rfl,rfl⟩)
  |((with_reducible refine' aj ?_ ?_);any_goals exact rfl)
  |((with_reducible refine' ak ?_ ?_);any_goals exact rfl)
  |((with_reducible refine' EO 0 ?_ ?_);any_goals exact⟨rfl,rfl,rfl,rfl,rfl,rfl⟩)
  |((with_reducible refine' EO 1 ?_ ?_);any_goals exact⟨rfl,rfl,rfl,rfl,rfl,rfl⟩)
  |((with_reducible refine' EO 2 ?_ ?_);any_goals exact⟨rfl,rfl,rfl,rfl,rfl,rfl⟩)
  |((with_reducible refine' EO 3 ?_ ?_);any_goals exact⟨rfl,rfl,rfl,rfl,rfl,rfl⟩)
  |((with_reducible refine' EO 4 ?_ ?_);any_goals exact⟨rfl,rfl,rfl,rfl,rfl,rfl⟩)
  |((with_reducible refine' EO 5 ?_ ?_);any_goals exact⟨rfl,rfl,rfl,rfl,rfl,rfl⟩)
  |((with_reducible refine' EO 6 ?_ ?_);any_goals exact⟨rfl,rfl,rfl,rfl,rfl,rfl⟩)
  |((with_reducible refine' z6 ?_ fun _=>?_);any_goals exact rfl)
  |((with_reducible refine' ic ?_ fun _=>?_);any_goals exact⟨rfl,rfl,rfl,rfl,rfl⟩)
  |((with_reducible refine' al ?_ ?_ fun _=>?_);(any_goals exact⟨rfl,rfl⟩);any_goals(intro(_:True);(repeat first|exact rfl|assumption|refine Qa ?_ ?_);done))
  |with_reducible exact vX):F T st:=h hn T st hK trivial hM
theorem Qf(j:Nat){T:Tr AV}{st:St}(hK:JC K T)(hM:Mem h0 n0 X st M)(hn:g')(h:To (SG j (fun s=>s=st) h0 n0 X K M (F)) g':=by
 repeat' first
  |with_reducible refine' qV ?_
  |with_reducible refine' vg ?_
  |with_reducible refine' vd ?_
  |with_reducible refine' ve ?_
  |with_reducible refine' SE ?_
  |with_reducible refine' qW ?_
  |with_reducible refine' SD ?_
  |with_reducible refine' CO ?_
  |((first|with_reducible refine' iQ ?_ ?_ ?_|with_reducible refine' iR ?_ ?_ ?_);(any_goals exact fN);any_goals first|exact rfl|exact⟨rfl,rfl,rfl⟩)
  |((with_reducible refine' ai ?_ ?_);any_goals exact⟨rfl,rfl,rfl,rfl⟩)
  |((with_reducible refine' vf ?_ ?_);any_goals exact⟨rfl,rfl,rfl⟩)
  |((with_reducible refine' aj ?_ ?_);any_goals exact rfl)
  |((with_reducible refine' ak ?_ ?_);any_goals exact rfl)
  |with_reducible refine' fY ?_
  |with_reducible refine' fZ ?_
  |((with_reducible refine' ia ?_ ?_);any_goals exact rfl)
  |((with_reducible refine' hH ?_ ?_);(any_goals exact rfl);any_goals exact⟨rfl,rfl⟩)
  |((with_reducible refine' vW 0 ?_ ?_ ?_);(any_goals exact rfl);(any_goals infer_instance);any_goals exact⟨rfl,rfl,rfl⟩)
  |((with_reducible refine' vW 1 ?_ ?_ ?_);(any_goals exact rfl);(any_goals infer_instance);any_goals exact⟨rfl,rfl,rfl⟩)
  |((with_reducible refine' vW 2 ?_ ?_ ?_);(any_goals exact rfl);(any_goals infer_instance);any_goals exact⟨rfl,rfl,rfl⟩)
  |with_reducible exact zx):F T st:=h hn T st hK rfl hM
def DG(P:Program)(G:Env)(N:Nat)(h0:Hp)(n0:Nat)(X:List Nat)(M:List (Nat×Nat×List AV))(st:St)(sn:List St)(ops:List Oper)(R:Tr AV→St→Prop)(j:Nat)(w:List (Nat×Nat))(K:List (Nat×AV)):Prop:=Mem h0 n0 X st M→ ∀T,JC K T→WD P G N ops (w.map (Xk ops)) R T st sn
theorem ko(ho:ops[i]? =some (⟨some d,op,ty,pos,af,none⟩))(hp:PO P G h0 n0 X K M op v)(hh:Nat.beq (QZ P op) 3=false∧Nat.ble (d+1) N=true)(h:To (DG P G N h0 n0 X M st sn ops R j w ((d,v)::K)) g'):To (DG P G N h0 n0 X M st sn ops R (j+1) ((i,0)::w) K) g':=fun h' hM T hK=>d1 ho hK (hp.h st hM) hh.1 hh.2 fun T' hK'=>h h' hM T' hK'
theorem ib(ho:ops[i]? =some (⟨some d,op,ty,pos,af,some (jj,pol)⟩))(hp:PO P G h0 n0 X K M op v)(hh:YS ops jj=some tt∧K.lookup tt=some (.bool pol)∧Nat.beq (QZ P op) 3=false∧Nat.ble (d+1) N=true)(h:To (DG P G N h0 n0 X M st sn ops R j w ((d,v)::K)) g'):To (DG P G N h0 n0 X M st sn ops R (j+1) ((i,0)::w) K) g':=fun h' hM T hK=>dg ho hK hh.1 hh.2.1 (hp.h st hM) hh.2.2.1 hh.2.2.2 fun T' hK'=>h h' hM T' hK'
theorem zy:To (DG P G N h0 n0 X M st sn ops R i w K) (∀T,JC K T→WD P G N ops (w.map (Xk ops)) R T st sn):=fun h _=>h
theorem JL(j:Nat){T:Tr AV}(hK:JC K T)(hM:Mem h0 n0 X st M)(hn:g')(h:To (DG P G N h0 n0 X M st sn ops R j w K) g':=by
 repeat' first
  |((first|with_reducible refine' ko ?_ ?_ ?_ ?_);(any_goals exact rfl);(any_goals exact fN);any_goals exact⟨rfl,rfl⟩)
  |((with_reducible refine' ib ?_ ?_ ?_ ?_);(any_goals exact rfl);(any_goals exact fN);any_goals exact⟨rfl,rfl,rfl,rfl⟩)
  |with_reducible exact zy):WD P G N ops (w.map (Xk ops)) R T st sn:=h hn hM T hK
end
section
variable {P:Program} {G:Env} {N:Nat} {h0:Hp} {n0:Nat} {X:List Nat} {K:List (Nat×AV)} {M:List (Nat×Nat×List AV)} {ops rest:List Oper} {R:Tr AV→St→Prop} {Q:Ex→Tr AV→St→Prop} {d:Nat} {ty:TypeId} {pos:String} {af:Array Edge} {T:Tr AV} {st:St}
theorem XR{a b:Code}{p:Prop} [Decidable p](hK:JC K T)(hg:Ut G K g=some (.bool (decide p)))(ha:p→W P G N a Q T st)(hb: ¬p→W P G N b Q T st):W P G N (.cond g a b) Q T st:=Vy (hK.JW hg) (fun h=>ha (of_decide_eq_true h)) fun h=>hb (of_decide_eq_false h)
theorem eU{a b:Code}{p:Prop} [Decidable p](hK:JC K T)(hg:Ut G K g=some (.bool (!decide p)))(ha: ¬p→W P G N a Q T st)(hb:p→W P G N b Q T st):W P G N (.cond g a b) Q T st:=Vy (hK.JW hg) (fun h=>ha (by simpa using h)) fun h=>hb (by simpa using h)
theorem oQ{args:Array Operand}{tys:Array TypeId}{l:List AV}{u:AV}(hK:JC K T)(hM:Mem h0 n0 X st M)(h: ∃v st',Ev P G f l st v st'∧v=u∧Qt st st')(ha:Ye (Ut G K) args.toList=some l)(hN:Nat.ble (d+1) N=true)(hn: ∀T' st',JC ((d,u)::K) T'→Mem h0 n0 X st' M→WR P G N ops rest R T' st'):
  WR P G N ops (⟨some d,.call {callee:=.value (.func f),args:=args,argTypes:=tys},ty,pos,af,none⟩::rest) R T st:=by
 obtain⟨v,st',ev,rfl,q⟩:=h;exact o1 hK (Qe ha ev) hN fun T' hK'=>hn T' st' hK' (hM.quiet q)
theorem oR{args:Array Operand}{tys:Array TypeId}{l:List AV}{u:AV}(k:Nat){c m m':Nat}{r r':List AV}(hK:JC K T)(hM:Mem h0 n0 X st M)(h: ∃v st',Ev P G f l st v st'∧v=u∧Vq [c] st st'∧Jh st'.h.get c m' r')(hk:M[k]? =some (c,m,r))(ha:Ye (Ut G K) args.toList=some l)(hN:Nat.ble (d+1) N=true)(hn: ∀T' st',JC ((d,u)::K) T'→Mem h0 n0 X st' (M.set k (c,m',r'))→WR P G N ops rest R T' st'):
  WR P G N ops (⟨some d,.call {callee:=.value (.func f),args:=args,argTypes:=tys},ty,pos,af,none⟩::rest) R T st:=by
 obtain⟨v,st',ev,rfl,q,w⟩:=h;exact o1 hK (Qe ha ev) hN fun T' hK'=>hn T' st' hK' (hM.J8 hk q w)
theorem ej{fn:Func}{c:Code}{N:Nat}{rs:List ResultVar}{args:List AV}{Q:AV→St→Prop}(hs:G.s f=none)(hf:P.funcs[f]? =some fn)(hb:fn.body=some c)(hN:fn.ntmps=N)(hr:fn.results.toList=rs)
 (h: ∀T,(∀t,YW T t=(args[t]?).getD (.tup []))→W P G N c (fun x T st=>(x=.nor∨x=.ret)∧ ∃v,JF P rs T st=some v∧Q v st) T st) (hname:(fn.name== "runtime.NumGoroutine")=false:=by decide) (hl:args.length≤N:=by simp): ∃v st',Ev P G f args st v st'∧Q v st':=vt hs hf hb hN hr hname hl h
theorem rt1{t:Nat}{v:AV}(hK:JC K T)(h:K.lookup t=some v):JF P [.tmp t] T st=some v:=LK (J6 hK h)
theorem rt2{t s:Nat}{u v:AV}(hK:JC K T)(h:K.lookup t=some u)(h':K.lookup s=some v):JF P [.tmp t,.tmp s] T st=some (.tup [u,v]):=X4 (J6 hK h) (J6 hK h')
theorem Ld{a:Nat}{t:TypeId}{l r:List AV} [ht:TA P t n](k:Nat){c m off:Nat}(hK:JC K T)(hM:Mem h0 n0 X st M)(h:K.lookup a=some (.ptr c m off))(hk:M[k]? =some (c,m,l))(hl:W7 n (Ej off l) (fun r=>some (AV.agg r))=some (.agg r)):JF P [.cell a t] T st=some (.agg r):=LK (UU hK h (hM.load hk (QO ht.h hl)))
theorem k8{op:Op}{p:Prop} [Decidable p](hK:JC K T)(h:ZS P G K op st (.bool (decide p)) st)(hN:Nat.ble (d+1) N=true)(hf: ∀T',¬p→JC ((d,.bool false)::K) T'→WR P G N ops rest R T' st)(ht: ∀T',p→JC ((d,.bool true)::K) T'→WR P G N ops rest R T' st):WR P G N ops (⟨some d,op,ty,pos,af,none⟩::rest) R T st:=oB hK h hN (fun b T' e K'=>by cases b;exact hf T' (of_decide_eq_false e) K';exact ht T' (of_decide_eq_true e) K')
theorem k9{op:Op}{p:Prop} [Decidable p](hK:JC K T)(h:ZS P G K op st (.bool (!decide p)) st)(hN:Nat.ble (d+1) N=true)(hf: ∀T',p→JC ((d,.bool false)::K) T'→WR P G N ops rest R T' st)(ht: ∀T',¬p→JC ((d,.bool true)::K) T'→WR P G N ops rest R T' st):WR P G N ops (⟨some d,op,ty,pos,af,none⟩::rest) R T st:=oB hK h hN (fun b T' e K'=>by cases b;exact hf T' ((by simpa using e)) K';exact ht T' ((by simpa using e)) K')
theorem ky{op:Op}{p:Prop} [Decidable p](hK:JC K T)(hd:YS ops jj=some tt)(hb:K.lookup tt=some (.bool pol))(h:ZS P G K op st (.bool (decide p)) st)(hN:Nat.ble (d+1) N=true)(hf: ∀T',¬p→JC ((d,.bool false)::K) T'→WR P G N ops rest R T' st)(ht: ∀T',p→JC ((d,.bool true)::K) T'→WR P G N ops rest R T' st):WR P G N ops (⟨some d,op,ty,pos,af,some (jj,pol)⟩::rest) R T st:=M7 hK hd hb h hN (fun b T' e K'=>by cases b;exact hf T' (of_decide_eq_false e) K';exact ht T' (of_decide_eq_true e) K')
theorem kz{op:Op}{p:Prop} [Decidable p](hK:JC K T)(hd:YS ops jj=some tt)(hb:K.lookup tt=some (.bool pol))(h:ZS P G K op st (.bool (!decide p)) st)(hN:Nat.ble (d+1) N=true)(hf: ∀T',p→JC ((d,.bool false)::K) T'→WR P G N ops rest R T' st)(ht: ∀T',¬p→JC ((d,.bool true)::K) T'→WR P G N ops rest R T' st):WR P G N ops (⟨some d,op,ty,pos,af,some (jj,pol)⟩::rest) R T st:=M7 hK hd hb h hN (fun b T' e K'=>by cases b;exact hf T' ((by simpa using e)) K';exact ht T' ((by simpa using e)) K')
theorem Kn{x:Operand}{p:Prop} [Decidable p](hK:JC K T)(hx:Ut G K x=some (.bool (decide p)))(hf: ∀T',¬p→JC ((d,.bool false)::K) T'→WR P G N ops rest R T' st)(ht: ∀T',p→JC ((d,.bool true)::K) T'→WR P G N ops rest R T' st)(hN:Nat.ble (d+1) N=true:=by exact rfl):WR P G N ops (⟨some d,.move x,ty,pos,af,none⟩::rest) R T st:=k8 hK (QH hx) hN hf ht
theorem eK{x:Operand}{p:Prop} [Decidable p](hK:JC K T)(hx:Ut G K x=some (.bool (!decide p)))(hf: ∀T',p→JC ((d,.bool false)::K) T'→WR P G N ops rest R T' st)(ht: ∀T',¬p→JC ((d,.bool true)::K) T'→WR P G N ops rest R T' st)(hN:Nat.ble (d+1) N=true:=by exact rfl):WR P G N ops (⟨some d,.move x,ty,pos,af,none⟩::rest) R T st:=k9 hK (QH hx) hN hf ht
theorem fQ{op:Op}{p:Prop} [Decidable p](ho:ops[i]? =some (⟨some d,op,ty,pos,af,none⟩))(hK:JC K T)(h:ZS P G K op st (.bool (decide p)) st)(hk:Nat.beq (QZ P op) 3=false)(hN:Nat.ble (d+1) N=true)(hf: ∀T',¬p→JC ((d,.bool false)::K) T'→WD P G N ops (w.map (Xk ops)) R T' st sn)(ht: ∀T',p→JC ((d,.bool true)::K) T'→WD P G N ops (w.map (Xk ops)) R T' st sn):WD P G N ops (((i,0)::w).map (Xk ops)) R T st sn:=dB ho hK h hk hN (fun b T' e K'=>by cases b;exact hf T' (of_decide_eq_false e) K';exact ht T' (of_decide_eq_true e) K')
theorem dBn{op:Op}{p:Prop} [Decidable p](ho:ops[i]? =some (⟨some d,op,ty,pos,af,none⟩))(hK:JC K T)(h:ZS P G K op st (.bool (!decide p)) st)(hk:Nat.beq (QZ P op) 3=false)(hN:Nat.ble (d+1) N=true)(hf: ∀T',p→JC ((d,.bool false)::K) T'→WD P G N ops (w.map (Xk ops)) R T' st sn)(ht: ∀T',¬p→JC ((d,.bool true)::K) T'→WD P G N ops (w.map (Xk ops)) R T' st sn):WD P G N ops (((i,0)::w).map (Xk ops)) R T st sn:=dB ho hK h hk hN (fun b T' e K'=>by cases b;exact hf T' ((by simpa using e)) K';exact ht T' ((by simpa using e)) K')
def eD:Nat→List AV→List (Nat×AV)
 |_,[]=>[]
 |i,v::l=>(i,v)::eD (i+1) l
theorem TH: ∀(l:List AV) (i:Nat),(∀t,i≤t→YW T t=(l[t-i]?).getD (.tup []))→JC (eD i l) T
 |[],_,_=>.nil
 |v::l,i,h=>.cons (by have:=h i (Nat.le_refl _);rwa [Nat.sub_self]at this) (TH l (i+1) fun t ht=>by
  have:=h t Qq;rw[show t-i=t-(i+1)+1 by omega]at this
  exact this)
theorem Zw{fn:Func}{c:Code}{N:Nat}{args:List AV}{Q:AV→St→Prop}(hf:P.funcs[f]? =some fn)(hN:fn.ntmps=N)
 (h: ∀T,JC (eD 0 args) T→W P G N c (fun x T st=>(x=.nor∨x=.ret)∧ ∃v,JF P fn.results.toList T st=some v∧Q v st) T st) (hs:G.s f=none:=by rfl) (hb:fn.body=some c:=by rfl) (hname:(fn.name== "runtime.NumGoroutine")=false:=by decide) (hl:args.length≤N:=by simp): ∃v st',Ev P G f args st v st'∧Q v st':=vt hs hf hb hN rfl hname hl fun T hT=>h T (TH args 0 fun t _=>hT t)
theorem oI{x i:Operand}{t:TypeId}{k:IntKind}{v:AV}{z j:Nat}(hR:QQ st.h.get Y z ls ks)(hi:ls[j]? =some cs)(hK:JC K T)(he:Zo P t=some z)(ht:tk P t'=.one)(hx:Ut G K x=some ks)(hy:Ut G K i=some (.int k (j:Int)))(hv:cs[0]? =some v)(hn: ∀c m o T',JC ((d2,v)::(d,.ptr c m o)::K) T'→WR P G N ops rest R T' st)(hN:Nat.ble (d+1) N=true:=by exact rfl)(hN2:Nat.ble (d2+1) N=true:=by exact rfl):WR P G N ops (⟨some d,.indexAddr t x i,ty,pos,af,none⟩::⟨some d2,.load t' (.tmp d),ty2,pos2,af2,none⟩::rest) R T st:=by
 obtain⟨c,m,off,rfl,_,la,lo,_⟩:=hR.load (P:=P) hi;exact o1 hK (Qo he hx hy (List.getElem?_eq_some_iff.1 hi).1) hN fun T' K'=>o1 K' (Je (show Ut G (_::K) (.tmp d)=_ by show List.lookup d _=_;rw[List.lookup_cons];simp) (lo _ 0 _ ht hv)) hN2 fun T'' K''=>hn _ _ _ _ K''
theorem dI{x i:Operand}{t:TypeId}{k:IntKind}{v:AV}{z j:Nat}{i1 i2:Nat}{r:List (Nat×Nat)}(ho:ops[i1]? =some ⟨some d,.indexAddr t x i,ty,pos,af,none⟩)(ho2:ops[i2]? =some ⟨some d2,.load t' (.tmp d),ty2,pos2,af2,none⟩)(hR:QQ st.h.get Y z ls ks)(hi:ls[j]? =some cs)(hK:JC K T)(he:Zo P t=some z)(ht:tk P t'=.one)(hx:Ut G K x=some ks)(hy:Ut G K i=some (.int k (j:Int)))(hv:cs[0]? =some v)(hn: ∀c m o T',JC ((d2,v)::(d,.ptr c m o)::K) T'→WD P G N ops (r.map (Xk ops)) R T' st sn)(hN:Nat.ble (d+1) N=true:=by exact rfl)(hN2:Nat.ble (d2+1) N=true:=by exact rfl):WD P G N ops (((i1,0)::(i2,0)::r).map (Xk ops)) R T st sn:=by
 obtain⟨c,m,off,rfl,_,la,lo,_⟩:=hR.load (P:=P) hi;exact d1 ho hK (Qo he hx hy (List.getElem?_eq_some_iff.1 hi).1) rfl hN fun T' K'=>d1 ho2 K' (Je (show Ut G (_::K) (.tmp d)=_ by show List.lookup d _=_;rw[List.lookup_cons];simp) (lo _ 0 _ ht hv)) rfl hN2 fun T'' K''=>hn _ _ _ _ K''
theorem eL{x i:Operand}{t:TypeId}{k:IntKind}{z j:Nat}(hR:QQ st.h.get Y z ls ks)(hi:ls[j]? =some cs)(hK:JC K T)(he:Zo P t=some z)(ht:tk P t'=.agg z)(hx:Ut G K x=some ks)(hy:Ut G K i=some (.int k (j:Int)))(hn: ∀c m o T',JC ((d2,.agg cs)::(d,.ptr c m o)::K) T'→WR P G N ops rest R T' st)(hN:Nat.ble (d+1) N=true:=by exact rfl)(hN2:Nat.ble (d2+1) N=true:=by exact rfl):WR P G N ops (⟨some d,.indexAddr t x i,ty,pos,af,none⟩::⟨some d2,.load t' (.tmp d),ty2,pos2,af2,none⟩::rest) R T st:=by
 obtain⟨c,m,off,rfl,_,la,lo,_⟩:=hR.load (P:=P) hi;exact o1 hK (Qo he hx hy (List.getElem?_eq_some_iff.1 hi).1) hN fun T' K'=>o1 K' (Je (show Ut G (_::K) (.tmp d)=_ by show List.lookup d _=_;rw[List.lookup_cons];simp) (la _ ht)) hN2 fun T'' K''=>hn _ _ _ _ K''
theorem zm{x i:Operand}{t:TypeId}{k:IntKind}{z j:Nat}{i1 i2:Nat}{r:List (Nat×Nat)}(ho:ops[i1]? =some ⟨some d,.indexAddr t x i,ty,pos,af,none⟩)(ho2:ops[i2]? =some ⟨some d2,.load t' (.tmp d),ty2,pos2,af2,none⟩)(hR:QQ st.h.get Y z ls ks)(hi:ls[j]? =some cs)(hK:JC K T)(he:Zo P t=some z)(ht:tk P t'=.agg z)(hx:Ut G K x=some ks)(hy:Ut G K i=some (.int k (j:Int)))(hn: ∀c m o T',JC ((d2,.agg cs)::(d,.ptr c m o)::K) T'→WD P G N ops (r.map (Xk ops)) R T' st sn)(hN:Nat.ble (d+1) N=true:=by exact rfl)(hN2:Nat.ble (d2+1) N=true:=by exact rfl):WD P G N ops (((i1,0)::(i2,0)::r).map (Xk ops)) R T st sn:=by
 obtain⟨c,m,off,rfl,_,la,lo,_⟩:=hR.load (P:=P) hi;exact d1 ho hK (Qo he hx hy (List.getElem?_eq_some_iff.1 hi).1) rfl hN fun T' K'=>d1 ho2 K' (Je (show Ut G (_::K) (.tmp d)=_ by show List.lookup d _=_;rw[List.lookup_cons];simp) (la _ ht)) rfl hN2 fun T'' K''=>hn _ _ _ _ K''
theorem Uj{a b:Code}{t:Bool}(hK:JC K T)(hg:Ut G K g=some (.bool t))(ha:t=true→W P G N a Q T st)(hb:t=false→W P G N b Q T st):W P G N (.cond g a b) Q T st:=Vy (hK.JW hg) ha hb
theorem p1{op:Op}{v:AV}(hK:JC K T)(h:ZS P G K op st v st1)(hn: ∀T',JC ((d,v)::K) T'→WR P G N ops rest R T' st1)(hN:Nat.ble (d+1) N=true:=by exact rfl):WR P G N ops (⟨some d,op,ty,pos,af,none⟩::rest) R T st:=o1 hK h hN hn
theorem pg{j t:Nat}{op:Op}{v:AV}(hK:JC K T)(ht:YS ops j=some t)(hb:K.lookup t=some (.bool pol))(h:ZS P G K op st v st1)(hn: ∀T',JC ((d,v)::K) T'→WR P G N ops rest R T' st1)(hN:Nat.ble (d+1) N=true:=by exact rfl):WR P G N ops (⟨some d,op,ty,pos,af,some (j,pol)⟩::rest) R T st:=og hK ht hb h hN hn
theorem q1{r:List (Nat×Nat)}{op:Op}{v:AV}(ho:ops[i]? =some ⟨some d,op,ty,pos,af,none⟩)(hK:JC K T)(h:ZS P G K op st v st1)(hn: ∀T',JC ((d,v)::K) T'→WD P G N ops (r.map (Xk ops)) R T' st1 sn)(hk:Nat.beq (QZ P op) 3=false:=by exact rfl)(hN:Nat.ble (d+1) N=true:=by exact rfl):WD P G N ops (((i,0)::r).map (Xk ops)) R T st sn:=d1 ho hK h hk hN hn
theorem qA{r:List (Nat×Nat)}{op:Op}{v:AV}(ho:ops[i]? =some ⟨some d,op,ty,pos,af,none⟩)(hK:JC K T)(h:ZS P G K op st v st1)(hn: ∀T',JC ((d,v)::K) T'→WD P G N ops (r.map (Xk ops)) R T' st1 (st1::sn))(hk:Nat.beq (QZ P op) 3=true:=by exact rfl)(hN:Nat.ble (d+1) N=true:=by exact rfl):WD P G N ops (((i,0)::r).map (Xk ops)) R T st sn:=dA ho hK h hk hN hn
end
end Go.Proofs.YtmgkfceomhagaaaGreatDoor
