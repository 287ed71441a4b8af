/-
  Straight runs of operations in one step.
-/
import Derived.Test.YtildagdnomiahaaGreatDoorQgTyc
namespace Go.Proofs.YtildagdnomiahaaGreatDoor
open Go Go.RowKit
set_option linter.unusedVariables false
set_option linter.unusedSectionVars false
variable {F:Tr AV→St→Prop} {Y:List Nat} {af2:Array Edge} {cs:List AV} {d2 i id jj n t1 tt:Nat} {f:FuncId} {g:Operand} {ks:AV} {ls:List (List AV)} {pol:Bool} {pos2:String} {sn:List St} {st1:St} {t' ty2:TypeId} {w:List (Nat×Nat)}

class FO(P:Program)(t:TypeId)(f:Nat)(o:outParam Nat):Prop where
 h:Q6 P t f=some o
class T1(P:Program)(t:TypeId):Prop where
 h:tk P t=.one
class TA(P:Program)(t:TypeId)(n:outParam Nat):Prop where
 h:tk P t=.agg n
class ZE(P:Program)(t:TypeId)(l:outParam (List AV)):Prop where
 h:zeroOf P t=some l
class SZ(P:Program)(t:TypeId)(n:outParam Nat):Prop where
 h:UH P t=some n
class UL(P:Program)(t:TypeId):Prop where
 h: ∃e,P.underlying t=some (.slice e)
class ST(P:Program)(t:TypeId)(tbl:outParam (List (Nat×Nat)))(z:outParam (List AV)):Prop where
 h:Py P t tbl z
class SL(P:Program)(t:TypeId)(e:outParam TypeId)(z:outParam Nat):Prop where
 h:AA P t e z
instance :FO Tryz.prog 40 1 1:=⟨Nb⟩
instance :FO Tryz.prog 44 0 0:=⟨Ni⟩
instance :FO Tryz.prog 44 1 1:=⟨Nh⟩
instance :FO Tryz.prog 44 2 2:=⟨Ng⟩
instance :FO Tryz.prog 44 3 3:=⟨Nf⟩
instance :FO Tryz.prog 44 4 4:=⟨Nd⟩
instance :FO Tryz.prog 44 5 5:=⟨Nc⟩
instance :FO Tryz.prog 201 0 0:=⟨Nl⟩
instance :FO Tryz.prog 201 1 1:=⟨Nk⟩
instance :FO Tryz.prog 201 2 2:=⟨Nj⟩
instance :FO Tryz.prog 123 0 0:=⟨Hf⟩
instance :FO Tryz.prog 123 1 1:=⟨He⟩
instance :FO Tryz.prog 296 0 0:=⟨Ie⟩
instance :FO Tryz.prog 296 1 1:=⟨Ic⟩
instance :FO Tryz.prog 250 0 0:=⟨Na⟩
instance :FO Tryz.prog 250 1 1:=⟨LZ⟩
instance :FO Tryz.prog 250 2 2:=⟨LY⟩
instance :FO Tryz.prog 257 0 0:=⟨KK⟩
instance :FO Tryz.prog 257 1 1:=⟨KJ⟩
instance :FO Tryz.prog 257 2 2:=⟨KI⟩
instance :FO Tryz.prog 278 0 0:=⟨Ip⟩
instance :FO Tryz.prog 278 1 1:=⟨Io⟩
instance :FO Tryz.prog 278 2 2:=⟨Im⟩
instance :FO Tryz.prog 289 0 0:=⟨Ii⟩
instance :FO Tryz.prog 289 1 1:=⟨Ih⟩
instance :FO Tryz.prog 289 2 2:=⟨Ig⟩
instance :FO Tryz.prog 301 0 0:=⟨Fs⟩
instance :FO Tryz.prog 301 1 1:=⟨Fm⟩
instance :FO Tryz.prog 301 2 2:=⟨Fj⟩
instance :FO Tryz.prog 354 0 0:=⟨LU⟩
instance :FO Tryz.prog 356 0 0:=⟨LX⟩
instance :FO Tryz.prog 356 1 1:=⟨LW⟩
instance :FO Tryz.prog 356 2 2:=⟨LV⟩
instance :FO Tryz.prog 338 0 0:=⟨Il⟩
instance :FO Tryz.prog 338 1 1:=⟨Ik⟩
instance :FO Tryz.prog 338 2 2:=⟨Ij⟩
instance :T1 Tryz.prog 199:=⟨JJ⟩
instance :TA Tryz.prog 201 3:=⟨GJ⟩
instance :T1 Tryz.prog 86:=⟨FN⟩
instance :T1 Tryz.prog 124:=⟨JT⟩
instance :T1 Tryz.prog 205:=⟨Jh⟩
instance :T1 Tryz.prog 254:=⟨JS⟩
instance :T1 Tryz.prog 255:=⟨AK⟩
instance :T1 Tryz.prog 328:=⟨Yg⟩
instance :TA Tryz.prog 282 3:=⟨RG⟩
instance :T1 Tryz.prog 286:=⟨Y2⟩
instance :T1 Tryz.prog 287:=⟨W2⟩
instance :TA Tryz.prog 301 3:=⟨QM⟩
instance :ZE Tryz.prog 201 [.int .i64 0,.nils,.nils]:=⟨Wy⟩
instance :ZE Tryz.prog 124 [.nilp]:=⟨EF⟩
instance :ZE Tryz.prog 123 [.int .i64 0,.bool false]:=⟨Ww⟩
instance :ZE Tryz.prog 296 [.nilp,.nilp]:=⟨EC⟩
instance :ZE Tryz.prog 250 [.nils,.nils,.nilp]:=⟨Hz⟩
instance :ZE Tryz.prog 257 [.int .i64 0,.nils,.nilm]:=⟨AE⟩
instance :ZE Tryz.prog 328 [.nili]:=⟨Wx⟩
instance :ZE Tryz.prog 278 [.int .i64 0,.bool false,.int .i64 0]:=⟨XU⟩
instance :ZE Tryz.prog 282 [.int .i64 0,.int .i64 0,.int .i64 0]:=⟨Nv⟩
instance :ZE Tryz.prog 289 [.nilm,.nils,.nilp]:=⟨ED⟩
instance :ZE Tryz.prog 301 [.nilf,.int .i64 0,.int .i64 0]:=⟨Wj⟩
instance :ZE Tryz.prog 354 [.int .i64 0]:=⟨Hx⟩
instance :ZE Tryz.prog 356 [.int .i64 0,.int .i64 0,.int .i64 0]:=⟨Hy⟩
instance :ZE Tryz.prog 338 [.nilp,.nilf,.nilm]:=⟨EE⟩
instance :T1 Tryz.prog 3:=⟨Qq⟩
instance :T1 Tryz.prog 4:=⟨XJ⟩
instance :T1 Tryz.prog 9:=⟨FM⟩
instance :TA Tryz.prog 40 3:=⟨H4⟩
instance :T1 Tryz.prog 42:=⟨L9⟩
instance :TA Tryz.prog 44 6:=⟨QZ⟩
instance :TA Tryz.prog 222 2:=⟨Ny⟩
instance :T1 Tryz.prog 48:=⟨Jg⟩
instance :ZE Tryz.prog 3 [.int .i64 0]:=⟨FI⟩
instance :ZE Tryz.prog 4 [.bool false]:=⟨Eh⟩
instance :ZE Tryz.prog 40 [.str [],.int .i64 0,.int .i64 0]:=⟨G9⟩
instance :ZE Tryz.prog 44 [.str [],.int .i64 0,.int .i64 0,.int .i64 0,.int .i64 0,.nils]:=⟨U9⟩
instance :ZE Tryz.prog 222 [.int .i64 0,.int .i64 0]:=⟨YL⟩
instance :ZE Tryz.prog 48 [.nils]:=⟨YT⟩
instance :SZ Tryz.prog 199 1:=⟨Vw⟩
instance :SZ Tryz.prog 201 3:=⟨ZB⟩
instance :SZ Tryz.prog 254 1:=⟨EI⟩
instance :SZ Tryz.prog 278 3:=⟨EH⟩
instance :SZ Tryz.prog 282 3:=⟨RH⟩
instance :SZ Tryz.prog 287 1:=⟨H5⟩
instance :SZ Tryz.prog 301 3:=⟨HY⟩
instance :SZ Tryz.prog 356 3:=⟨GN⟩
instance :SZ Tryz.prog 3 1:=⟨Oz⟩
instance :SZ Tryz.prog 4 1:=⟨El⟩
instance :SZ Tryz.prog 40 3:=⟨GO⟩
instance :SZ Tryz.prog 44 6:=⟨Jm⟩
instance :SZ Tryz.prog 222 2:=⟨RI⟩
instance :SZ Tryz.prog 48 1:=⟨IP⟩
instance :UL Tryz.prog 22:=⟨_,QS⟩
instance :UL Tryz.prog 42:=⟨_,Ji⟩
instance :ST Tryz.prog 44 [(0,1),(1,1),(2,1),(3,1),(4,1),(5,1)] [.str [],.int .i64 0,.int .i64 0,.int .i64 0,.int .i64 0,.nils]:=⟨GW⟩
instance :UL Tryz.prog 48:=⟨_,Js⟩
instance :SL Tryz.prog 42 44 6:=⟨UN⟩
instance :SL Tryz.prog 48 3 1:=⟨QT⟩
instance :UL Tryz.prog 199:=⟨_,Vr⟩
instance :ST Tryz.prog 201 [(0,1),(1,1),(2,1)] [.int .i64 0,.nils,.nils]:=⟨H8⟩
instance :ST Tryz.prog 123 [(0,1),(1,1)] [.int .i64 0,.bool false]:=⟨IY⟩
instance :ST Tryz.prog 296 [(0,1),(1,1)] [.nilp,.nilp]:=⟨LA⟩
instance :ST Tryz.prog 250 [(0,1),(1,1),(2,1)] [.nils,.nils,.nilp]:=⟨H7⟩
instance :UL Tryz.prog 193:=⟨_,Wl⟩
instance :UL Tryz.prog 254:=⟨_,Z0⟩
instance :ST Tryz.prog 257 [(0,1),(1,1),(2,1)] [.int .i64 0,.nils,.nilm]:=⟨O1⟩
instance :ST Tryz.prog 278 [(0,1),(1,1),(2,1)] [.int .i64 0,.bool false,.int .i64 0]:=⟨LD⟩
instance :UL Tryz.prog 287:=⟨_,ZA⟩
instance :ST Tryz.prog 289 [(0,1),(1,1),(2,1)] [.nilm,.nils,.nilp]:=⟨LB⟩
instance :ST Tryz.prog 301 [(0,1),(1,1),(2,1)] [.nilf,.int .i64 0,.int .i64 0]:=⟨HZ⟩
instance :ST Tryz.prog 354 [(0,1)] [.int .i64 0]:=⟨GU⟩
instance :ST Tryz.prog 356 [(0,1),(1,1),(2,1)] [.int .i64 0,.int .i64 0,.int .i64 0]:=⟨GV⟩
instance :ST Tryz.prog 338 [(0,1),(1,1),(2,1)] [.nilp,.nilf,.nilm]:=⟨LC⟩
instance :SL Tryz.prog 199 4 1:=⟨UM⟩
instance :SL Tryz.prog 193 124 1:=⟨UG⟩
instance :SL Tryz.prog 254 328 1:=⟨XX⟩
instance :SL Tryz.prog 287 222 2:=⟨W5⟩
abbrev iZ(z:Int):AV:=.int .i64 z
abbrev iN(n:Nat):AV:=.int .i64 n
def SG(j:Nat)(q:St→Prop)(h0:Hp)(n0:Nat)(X:List Nat)(K:List (Nat×AV))(M:List (Nat×Nat×List AV))(F:Tr AV→St→Prop):Prop:= ∀T st,QE K T→q st→Mem h0 n0 X st M→F T st
def To(g g':Prop):Prop:=g'→g
structure PO(P:Program)(G:Env)(h0:Hp)(n0:Nat)(X:List Nat)(K:List (Nat×AV))(M:List (Nat×Nat×List AV))(op:Op)(v:AV):Prop where
 h: ∀st,Mem h0 n0 X st M→Uf P G K op st v st
section
variable {j:Nat} {q:St→Prop} {P:Program} {G:Env} {N:Nat} {h0:Hp} {n0:Nat} {X:List Nat} {K:List (Nat×AV)} {M:List (Nat×Nat×List AV)} {g':Prop} {ops rest:List Oper} {R:Tr AV→St→Prop} {Q:Ex→Tr AV→St→Prop} {d:Nat} {ty:TypeId} {pos:String} {af:Array Edge} {st:St} {op:Op} {u v:AV} {x y:Operand} {t yt:TypeId} {k:IntKind} {a b:Int} {r l:List AV} {c m off:Nat} {A B:Bool} {tys:Array TypeId} {s z:List Nat}
theorem zR(h:QD G K x=some v):PO P G h0 n0 X K M (.move x) (v):=⟨fun _ hM=>QA h⟩
theorem Ml(h:QD G K x=some v):PO P G h0 n0 X K M (.assign x) (v):=⟨fun _ hM=>Yo h⟩
theorem EX [ht:T1 P t](i:Nat)(h:QD G K x=some (.ptr c m off))(h1:M[i]? =some (c,m,l))(h2:nth l off=some v):PO P G h0 n0 X K M (.load t x) v:=⟨fun _ hM=>Qh h (hM.load h1 (Qc ht.h h2))⟩
theorem VS [ht:TA P t n](i:Nat)(h:QD G K x=some (.ptr c m off))(h1:M[i]? =some (c,m,l))(h2:Wn n (Wp off l) (fun r=>some (AV.agg r))=some (.agg r)):PO P G h0 n0 X K M (.load t x) (.agg r):=⟨fun _ hM=>Qh h (hM.load h1 (Jc ht.h h2))⟩
theorem vZ{f o:Nat} [ho:FO P t f o](h:QD G K x=some (.ptr c m off)):PO P G h0 n0 X K M (.fieldAddr t x f) (.ptr c m (off+o)):=⟨fun _ hM=>Uo ho.h h⟩
theorem zQ(h:QD G K x=some (.ptr c m off)):PO P G h0 n0 X K M (.nilCheck x) (.ptr c m off):=⟨fun _ hM=>zV h rfl⟩
theorem wa(h:QD G K x=some (.tup l))(h':nth l i=some v):PO P G h0 n0 X K M (.extract x i) (v):=⟨fun _ hM=>D3 h h'⟩
theorem zP{w1 w2:Operand}(h:QD G K x=some (.bool A))(h1:QD G K w1=some u)(h2:QD G K w2=some v):PO P G h0 n0 X K M (.pick x w1 w2) (Ql A u v):=⟨fun _ hM=>u7 h h1 h2⟩
theorem vS(h:QD G K x=some (.bool A)):PO P G h0 n0 X K M (.unOp .not t x) (.bool (!A)):=⟨fun _ hM=>D0 h⟩
theorem vV(h:QD G K x=some (.int k a))(h':QD G K y=some (.int k b)):PO P G h0 n0 X K M (.binOp .lss t x y yt) (.bool (decide (a<b))):=⟨fun _ hM=>zX h h'⟩
theorem vX(h:QD G K x=some (.int k a))(h':QD G K y=some (.int k b)):PO P G h0 n0 X K M (.binOp .gtr t x y yt) (.bool (decide (b<a))):=⟨fun _ hM=>xa h h'⟩
theorem vW(h:QD G K x=some (.int k a))(h':QD G K y=some (.int k b)):PO P G h0 n0 X K M (.binOp .leq t x y yt) (.bool (decide (a≤b))):=⟨fun _ hM=>zY h h'⟩
theorem vY(h:QD G K x=some (.int k a))(h':QD G K y=some (.int k b)):PO P G h0 n0 X K M (.binOp .geq t x y yt) (.bool (decide (b≤a))):=⟨fun _ hM=>xb h h'⟩
theorem wc(h:QD G K x=some (.int k a))(h':QD G K y=some (.int k b)):PO P G h0 n0 X K M (.binOp .eql t x y yt) (.bool (decide (a=b))):=⟨fun _ hM=>Mu h h'⟩
theorem vU(h:QD G K x=some (.int k a))(h':QD G K y=some (.int k b)):PO P G h0 n0 X K M (.binOp .neq t x y yt) (.bool (!decide (a=b))):=⟨fun _ hM=>D1 h h'⟩
theorem wb(h:QD G K x=some (.str s))(h':QD G K y=some (.str z)):PO P G h0 n0 X K M (.binOp .eql t x y yt) (.bool (decide (s=z))):=⟨fun _ hM=>JE h h'⟩
theorem vT(h:QD G K x=some (.str s))(h':QD G K y=some (.str z)):PO P G h0 n0 X K M (.binOp .neq t x y yt) (.bool (!decide (s=z))):=⟨fun _ hM=>Kl h h'⟩
theorem we(h:QD G K x=some (.int .i64 a))(h':QD G K y=some (.int .i64 b))(h1: -9223372036854775808≤a+b)(h2:a+b≤9223372036854775807):PO P G h0 n0 X K M (.binOp .add t x y yt) (.int .i64 (a+b)):=⟨fun _ _=>xc h h' h1 h2⟩
theorem vR(h:QD G K x=some (.int .i64 a))(h':QD G K y=some (.int .i64 b))(h1: -9223372036854775808≤a-b)(h2:a-b≤9223372036854775807):PO P G h0 n0 X K M (.binOp .sub t x y yt) (.int .i64 (a-b)):=⟨fun _ _=>Mr h h' h1 h2⟩
theorem zS [hu:UL P t](h:QD G K x=some u)(h':JU u=some n):PO P G h0 n0 X K M (.call {callee:=.builtin .len,args:= #[x],argTypes:= #[t]}) (.int .i64 (n:Int)):=⟨fun _ _=>by obtain⟨e,hu⟩:=hu.h;exact Q4 hu rfl h h'⟩
theorem ux{parts:Array (Nat×Operand)}{ps:List (Nat×AV)}{tbl:List (Nat×Nat)}{zz:List AV} [hs:ST P t tbl zz](h:Yv (QD G K) parts=some ps)(h':ZM (nth tbl) ps zz=some r):PO P G h0 n0 X K M (.build t parts) (.agg r):=⟨fun _ hM=>AT hs.h h h'⟩
theorem TD{k:Tr AV→St→Prop}(h:To (SG j q h0 n0 X K M (k)) g'):To (SG j q h0 n0 X K M (IN k Q .nor)) g':=h
theorem za(h:To (SG j q h0 n0 X K M (Q .nor)) g'):To (SG j q h0 n0 X K M (Gs id Q .nor)) g':=h
theorem yX{a b:Code}(h:To (SG j q h0 n0 X K M (W P G N (a) (IN (W P G N b Q) Q))) g'):To (SG j q h0 n0 X K M (W P G N (.seq a b) Q)) g':=fun h' T st hK hq hM=>Z7 (h h' T st hK hq hM)
theorem P8{c:Code}(h:To (SG j q h0 n0 X K M (W P G N (c) (Gs id Q))) g'):To (SG j q h0 n0 X K M (W P G N (.block id c) Q)) g':=fun h' T st hK hq hM=>jO (h h' T st hK hq hM)
theorem TE(h:To (SG j q h0 n0 X K M (Q .nor)) g'):To (SG j q h0 n0 X K M (W P G N (.skip) Q)) g':=fun h' T st hK hq hM=>z8 (h h' T st hK hq hM)
theorem P7{l:Nat}(h:To (SG j q h0 n0 X K M (Q .nor)) g'):To (SG j q h0 n0 X K M (W P G N (.label l) Q)) g':=fun h' T st hK hq hM=>jN (h h' T st hK hq hM)
theorem GL{l:List Oper}(h:To (SG j q h0 n0 X K M (WR P G N l l (Q .nor))) g'):To (SG j q h0 n0 X K M (W P G N (.region id l.toArray false) Q)) g':=fun h' T st hK hq hM=>T6 (h h' T st hK hq hM)
theorem yY(h:To (SG j q h0 n0 X K M (R)) g'):To (SG j q h0 n0 X K M (WR P G N ops [] R)) g':=fun h' T st hK hq hM=>zy (h h' T st hK hq hM)
theorem vG{a b:Code}(hg:QD G K g=some (.bool true))(h:To (SG j q h0 n0 X K M (W P G N (a) Q)) g'):To (SG (j+1) q h0 n0 X K M (W P G N (.cond g a b) Q)) g':=fun h' T st hK hq hM=>IL (hK.QU hg) (fun _=>h h' T st hK hq hM) (fun e=>by cases e)
theorem vH{a b:Code}(hg:QD G K g=some (.bool false))(h:To (SG j q h0 n0 X K M (W P G N (b) Q)) g'):To (SG (j+1) q h0 n0 X K M (W P G N (.cond g a b) Q)) g':=fun h' T st hK hq hM=>IL (hK.QU hg) (fun e=>by cases e) (fun _=>h h' T st hK hq hM)
theorem eB(hp:PO P G h0 n0 X K M op v)(hN:Nat.ble (d+1) N=true)(h:To (SG j q h0 n0 X ((d,v)::K) M (WR P G N ops rest R)) g'):To (SG (j+1) q h0 n0 X K M (WR P G N ops (⟨some d,op,ty,pos,af,none⟩::rest) R)) g':=fun h' T st hK hq hM=>o1 hK (hp.h st hM) hN fun T' hK'=>h h' T' st hK' hq hM
theorem eC(hp:PO P G h0 n0 X K M op v)(hh:U6 ops jj=some tt∧K.lookup tt=some (.bool pol)∧Nat.ble (d+1) N=true)(h:To (SG j q h0 n0 X ((d,v)::K) M (WR P G N ops rest R)) g'):To (SG (j+1) q h0 n0 X K M (WR P G N ops (⟨some d,op,ty,pos,af,some (jj,pol)⟩::rest) R)) g':=fun h' T st hK hq hM=>og hK hh.1 hh.2.1 (hp.h st hM) hh.2.2 fun T' hK'=>h h' T' st hK' hq hM
theorem vF(hh:U6 ops jj=some tt∧K.lookup tt=some (.bool A)∧(A==pol)=false∧Nat.ble (d+1) N=true)(h:To (SG j q h0 n0 X ((d,.tup [])::K) M (WR P G N ops rest R)) g'):To (SG (j+1) q h0 n0 X K M (WR P G N ops (⟨some d,op,ty,pos,af,some (jj,pol)⟩::rest) R)) g':=fun h' T st hK hq hM=>gn hK hh.1 hh.2.1 hh.2.2.1 hh.2.2.2 fun T' hK'=>h h' T' st hK' hq hM
theorem yZ(hh:U6 ops jj=some tt∧K.lookup tt=some (.tup [])∧Nat.ble (d+1) N=true)(h:To (SG j q h0 n0 X ((d,.tup [])::K) M (WR P G N ops rest R)) g'):To (SG (j+1) q h0 n0 X K M (WR P G N ops (⟨some d,op,ty,pos,af,some (jj,pol)⟩::rest) R)) g':=fun h' T st hK hq hM=>eP hK hh.1 hh.2.1 hh.2.2 fun T' hK'=>h h' T' st hK' hq hM
theorem VM [hz:SZ P t n](i:Nat){r':List AV}(hh:QD G K x=some (.ptr c m off)∧QD G K y=some v∧M[i]? =some (c,m,r)∧(QJ v).length=n∧Xm Qu (QJ v)=true∧Yu (QJ v) off r=some r')(h:To (SG j (fun _=>True) h0 n0 X K (M.set i (c,m,r')) (WR P G N ops rest R)) g'):To (SG (j+1) (fun _=>True) h0 n0 X K M (WR P G N ops (⟨none,.store t x y,ty,pos,af,none⟩::rest) R)) g':=fun h' T st hK _ hM=>J9 (k:=i) hK hM hh.1 hh.2.1 hh.2.2.1 hz.h hh.2.2.2.1 hh.2.2.2.2.1 hh.2.2.2.2.2 fun st' hM'=>h h' T st' hK trivial hM'
theorem uc{g:Nat→Prop} [hz:ZE P t l](hN:Nat.ble (d+1) N=true)(h: ∀c,To (SG j (fun _=>True) h0 n0 X ((d,.ptr c 0 0)::K) ((c,0,l)::M) (WR P G N ops rest R)) (g c)):To (SG (j+1) (fun _=>True) h0 n0 X K M (WR P G N ops (⟨some d,.alloc t,ty,pos,af,none⟩::rest) R)) (∀c,g c):=fun h' T st hK _ hM=>GA hK hM hz.h (Nat.le_of_ble_eq_true hN) fun c T' st' hK' hM'=>h c (h' c) T' st' hK' trivial hM'
theorem vI{g:Nat→Prop}(hh:QD G K x=some v∧Nat.ble (d+1) N=true)(hc:True→Xm Qu (QJ v)=true)(h: ∀c,To (SG j (fun _=>True) h0 n0 X ((d,.ptr c 0 0)::K) ((c,0,QJ v)::M) (WR P G N ops rest R)) (g c)):To (SG (j+1) (fun _=>True) h0 n0 X K M (WR P G N ops (⟨some d,.box t x,ty,pos,af,none⟩::rest) R)) (∀c,g c):=fun h' T st hK _ hM=>J3 hK hM hh.1 (hc trivial) (Nat.le_of_ble_eq_true hh.2) fun c T' st' hK' hM'=>h c (h' c) T' st' hK' trivial hM'
theorem wW{g:Nat→Prop}{e:TypeId}{len w:Nat}{parts:Array (Nat×Operand)}{ps:List (Nat×AV)} [hs:SL P t e w] [hz:ZE P e l](hh:Yv (QD G K) parts=some ps∧ZM (fun i=>some (i *w,w)) ps (Xf len l)=some r∧Xm Qu r=true∧Nat.ble (len *w) 16777216=true∧Nat.ble (d+1) N=true)(h: ∀c,To (SG j (fun _=>True) h0 n0 X ((d,.sl c 0 0 len w)::K) ((c,0,r)::M) (WR P G N ops rest R)) (g c)):To (SG (j+1) (fun _=>True) h0 n0 X K M (WR P G N ops (⟨some d,.buildSlice t len parts,ty,pos,af,none⟩::rest) R)) (∀c,g c):=fun h' T st hK _ hM=>Vn hK hM hs.h hz.h hh.1 hh.2.1 hh.2.2.1 hh.2.2.2.1 hh.2.2.2.2 fun c T' st' hK' hM'=>h c (h' c) T' st' hK' trivial hM'
theorem zG{g:Prop}:To g g:=id
theorem ua:To (SG j (fun s=>s=st) h0 n0 X K M (F)) (∀T,QE K T→F T st):=fun h T _ hK hq hM=>hq▸h T hK
theorem wQ{k:Tr AV→St→Prop}(h:To (SG j q h0 n0 X K M (W P G N (.ret) Q)) g'):To (SG j q h0 n0 X K M (W P G N (.ret) (IN k Q))) g':=fun h' T st hK hq hM=>Z8 (by have h2:=h h' T st hK hq hM;obtain⟨L,n,x,T',st',h3,h4⟩:=h2;injection h3 with h3;injection h3 with h5 h6;injection h6 with h6 h7;subst h5 h6 h7;exact h4)
theorem wR(h:To (SG j q h0 n0 X K M (W P G N (.ret) Q)) g'):To (SG j q h0 n0 X K M (W P G N (.ret) (Gs id Q))) g':=fun h' T st hK hq hM=>Z8 (by have h2:=h h' T st hK hq hM;obtain⟨L,n,x,T',st',h3,h4⟩:=h2;injection h3 with h3;injection h3 with h5 h6;injection h6 with h6 h7;subst h5 h6 h7;exact h4)
theorem wU{Z:AV→St→Prop}{rs:List ResultVar}(hr:rs=[.tmp t1])(hh:K.lookup t1=some v):To (SG j (fun s=>s=st) h0 n0 X K M (W P G N (.ret) (fun x T s=>(x=.nor∨x=.ret)∧ ∃v,Jb P rs T s=some v∧Z v s))) (Z v st):=fun h' T s hK hq hM=>Z8 ⟨.inr rfl,_,by rw[hr];exact Iy (US hK hh),by subst hq;exact h'⟩
theorem wT{t2:Nat}{Z:AV→St→Prop}{rs:List ResultVar}(hr:rs=[.tmp t1,.tmp t2])(hh:K.lookup t1=some u∧K.lookup t2=some v):To (SG j (fun s=>s=st) h0 n0 X K M (W P G N (.ret) (fun x T s=>(x=.nor∨x=.ret)∧ ∃v,Jb P rs T s=some v∧Z v s))) (Z (.tup [u,v]) st):=fun h' T s hK hq hM=>Z8 ⟨.inr rfl,_,by rw[hr];exact Ya (US hK hh.1) (US hK hh.2),by subst hq;exact h'⟩
theorem zF{Z:AV→St→Prop}{rs:List ResultVar}(i:Nat)(ht:TA P t n)(hr:rs=[.cell t1 t])(hh:K.lookup t1=some (.ptr c m off)∧M[i]? =some (c,m,l)∧Wn n (Wp off l) (fun r=>some (AV.agg r))=some (.agg r)):To (SG j (fun s=>s=st) h0 n0 X K M (W P G N (.ret) (fun x T s=>(x=.nor∨x=.ret)∧ ∃v,Jb P rs T s=some v∧Z v s))) (Z (.agg r) st):=fun h' T s hK hq hM=>Z8 ⟨.inr rfl,_,by rw[hr];exact Iy (UZ hK hh.1 (hM.load hh.2.1 (Jc ht.h hh.2.2))),by subst hq;exact h'⟩
theorem wJ(h:PO P G h0 n0 X K M op v:=by first|(apply zR<;>exact rfl)|(apply Ml<;>exact rfl)|(apply EX 0<;>exact rfl)|(apply EX 1<;>exact rfl)|(apply EX 2<;>exact rfl)|(apply EX 3<;>exact rfl)|(apply EX 4<;>exact rfl)|(apply EX 5<;>exact rfl)|(apply EX 6<;>exact rfl)|(apply VS 0<;>exact rfl)|(apply VS 1<;>exact rfl)|(apply VS 2<;>exact rfl)|(apply VS 3<;>exact rfl)|(apply VS 4<;>exact rfl)|(apply VS 5<;>exact rfl)|(apply VS 6<;>exact rfl)|(apply vZ<;>exact rfl)|(apply zQ<;>exact rfl)|(apply wa<;>exact rfl)|(apply zP<;>exact rfl)|(apply vS<;>exact rfl)|(apply vV<;>exact rfl)|(apply vX<;>exact rfl)|(apply vW<;>exact rfl)|(apply vY<;>exact rfl)|(apply wc<;>exact rfl)|(apply vU<;>exact rfl)|(apply wb<;>exact rfl)|(apply vT<;>exact rfl)|(apply we;exact rfl;exact rfl;omega;omega)|(apply vR;exact rfl;exact rfl;omega;omega)|(apply zS<;>exact rfl)|(apply ux<;>exact rfl)):PO P G h0 n0 X K M op v:=h
theorem au(j:Nat){T:Tr AV}{st:St}(hK:QE K T)(hM:Mem h0 n0 X st M)(hn:g')(h:To (SG j (fun _=>True) h0 n0 X K M (F)) g':=by
 repeat' first
  |with_reducible refine' TD ?_
  |with_reducible refine' za ?_
  |with_reducible refine' yX ?_
  |with_reducible refine' yY ?_
  |with_reducible refine' P8 ?_
  |with_reducible refine' TE ?_
  |with_reducible refine' P7 ?_
  |with_reducible refine' GL ?_
  |((first|with_reducible refine' eB ?_ ?_ ?_|with_reducible refine' eC ?_ ?_ ?_);(any_goals exact wJ);any_goals first|exact rfl|exact⟨rfl,rfl,rfl⟩)
  |((with_reducible refine' vF ?_ ?_);any_goals exact⟨rfl,rfl,rfl,rfl⟩)
  |((with_reducible refine' yZ ?_ ?_);any_goals exact⟨rfl,rfl,rfl⟩)
  |((with_reducible refine' vG ?_ ?_);any_goals exact rfl)
  |((with_reducible refine' vH ?_ ?_);any_goals exact rfl)
  |((with_reducible refine' VM 0 ?_ ?_);any_goals exact⟨rfl,rfl,rfl,rfl,rfl,rfl⟩)
  |((with_reducible refine' VM 1 ?_ ?_);any_goals exact⟨rfl,rfl,rfl,rfl,rfl,rfl⟩)
  |((with_reducible refine' VM 2 ?_ ?_);any_goals exact⟨rfl,rfl,rfl,rfl,rfl,rfl⟩)
  |((with_reducible refine' VM 3 ?_ ?_);any_goals exact⟨rfl,rfl,rfl,rfl,rfl,rfl⟩)
  |((with_reducible refine' VM 4 ?_ ?_);any_goals exact⟨rfl,rfl,rfl,rfl,rfl,rfl⟩)
  |((with_reducible refine' VM 5 ?_ ?_);any_goals exact⟨rfl,rfl,rfl,rfl,rfl,rfl⟩)
  |((with_reducible refine' VM 6 ?_ ?_);any_goals exact⟨rfl,rfl,rfl,rfl,rfl,rfl⟩)
  |((with_reducible refine' uc ?_ fun _=>?_);any_goals exact rfl)
  |((with_reducible refine' wW ?_ fun _=>?_);any_goals exact⟨rfl,rfl,rfl,rfl,rfl⟩)
  |((with_reducible refine' vI ?_ ?_ fun _=>?_);(any_goals exact⟨rfl,rfl⟩);any_goals(intro(_:True);(repeat first|exact rfl|assumption|refine Qa ?_ ?_);done))
  |with_reducible exact zG):F T st:=h hn T st hK trivial hM
theorem Qb(j:Nat){T:Tr AV}{st:St}(hK:QE K T)(hM:Mem h0 n0 X st M)(hn:g')(h:To (SG j (fun s=>s=st) h0 n0 X K M (F)) g':=by
 repeat' first
  |with_reducible refine' TD ?_
  |with_reducible refine' za ?_
  |with_reducible refine' yX ?_
  |with_reducible refine' yY ?_
  |with_reducible refine' P8 ?_
  |with_reducible refine' TE ?_
  |with_reducible refine' P7 ?_
  |with_reducible refine' GL ?_
  |((first|with_reducible refine' eB ?_ ?_ ?_|with_reducible refine' eC ?_ ?_ ?_);(any_goals exact wJ);any_goals first|exact rfl|exact⟨rfl,rfl,rfl⟩)
  |((with_reducible refine' vF ?_ ?_);any_goals exact⟨rfl,rfl,rfl,rfl⟩)
  |((with_reducible refine' yZ ?_ ?_);any_goals exact⟨rfl,rfl,rfl⟩)
  |((with_reducible refine' vG ?_ ?_);any_goals exact rfl)
  |((with_reducible refine' vH ?_ ?_);any_goals exact rfl)
  |with_reducible refine' wQ ?_
  |with_reducible refine' wR ?_
  |((with_reducible refine' wU ?_ ?_);any_goals exact rfl)
  |((with_reducible refine' wT ?_ ?_);(any_goals exact rfl);any_goals exact⟨rfl,rfl⟩)
  |((with_reducible refine' zF 0 ?_ ?_ ?_);(any_goals exact rfl);(any_goals infer_instance);any_goals exact⟨rfl,rfl,rfl⟩)
  |((with_reducible refine' zF 1 ?_ ?_ ?_);(any_goals exact rfl);(any_goals infer_instance);any_goals exact⟨rfl,rfl,rfl⟩)
  |((with_reducible refine' zF 2 ?_ ?_ ?_);(any_goals exact rfl);(any_goals infer_instance);any_goals exact⟨rfl,rfl,rfl⟩)
  |with_reducible exact ua):F T st:=h hn T st hK rfl hM
def DG(P:Program)(G:Env)(N:Nat)(h0:Hp)(n0:Nat)(X:List Nat)(M:List (Nat×Nat×List AV))(st:St)(sn:List St)(ops:List Oper)(R:Tr AV→St→Prop)(j:Nat)(w:List (Nat×Nat))(K:List (Nat×AV)):Prop:=Mem h0 n0 X st M→ ∀T,QE K T→WD P G N ops (w.map (UI ops)) R T st sn
theorem eJ(ho:ops[i]? =some (⟨some d,op,ty,pos,af,none⟩))(hp:PO P G h0 n0 X K M op v)(hh:Nat.beq (Qy P op) 3=false∧Nat.ble (d+1) N=true)(h:To (DG P G N h0 n0 X M st sn ops R j w ((d,v)::K)) g'):To (DG P G N h0 n0 X M st sn ops R (j+1) ((i,0)::w) K) g':=fun h' hM T hK=>d1 ho hK (hp.h st hM) hh.1 hh.2 fun T' hK'=>h h' hM T' hK'
theorem wV(ho:ops[i]? =some (⟨some d,op,ty,pos,af,some (jj,pol)⟩))(hp:PO P G h0 n0 X K M op v)(hh:U6 ops jj=some tt∧K.lookup tt=some (.bool pol)∧Nat.beq (Qy P op) 3=false∧Nat.ble (d+1) N=true)(h:To (DG P G N h0 n0 X M st sn ops R j w ((d,v)::K)) g'):To (DG P G N h0 n0 X M st sn ops R (j+1) ((i,0)::w) K) g':=fun h' hM T hK=>dg ho hK hh.1 hh.2.1 (hp.h st hM) hh.2.2.1 hh.2.2.2 fun T' hK'=>h h' hM T' hK'
theorem ub:To (DG P G N h0 n0 X M st sn ops R i w K) (∀T,QE K T→WD P G N ops (w.map (UI ops)) R T st sn):=fun h _=>h
theorem Yd(j:Nat){T:Tr AV}(hK:QE K T)(hM:Mem h0 n0 X st M)(hn:g')(h:To (DG P G N h0 n0 X M st sn ops R j w K) g':=by
 repeat' first
  |((first|with_reducible refine' eJ ?_ ?_ ?_ ?_);(any_goals exact rfl);(any_goals exact wJ);any_goals exact⟨rfl,rfl⟩)
  |((with_reducible refine' wV ?_ ?_ ?_ ?_);(any_goals exact rfl);(any_goals exact wJ);any_goals exact⟨rfl,rfl,rfl,rfl⟩)
  |with_reducible exact ub):WD P G N ops (w.map (UI ops)) R T st sn:=h hn hM T hK
end
section
variable {P:Program} {G:Env} {N:Nat} {h0:Hp} {n0:Nat} {X:List Nat} {K:List (Nat×AV)} {M:List (Nat×Nat×List AV)} {ops rest:List Oper} {R:Tr AV→St→Prop} {Q:Ex→Tr AV→St→Prop} {d:Nat} {ty:TypeId} {pos:String} {af:Array Edge} {T:Tr AV} {st:St}
theorem Uk{a b:Code}{p:Prop} [Decidable p](hK:QE K T)(hg:QD G K g=some (.bool (decide p)))(ha:p→W P G N a Q T st)(hb: ¬p→W P G N b Q T st):W P G N (.cond g a b) Q T st:=IL (hK.QU hg) (fun h=>ha (of_decide_eq_true h)) fun h=>hb (of_decide_eq_false h)
theorem wO{a b:Code}{p:Prop} [Decidable p](hK:QE K T)(hg:QD G K g=some (.bool (!decide p)))(ha: ¬p→W P G N a Q T st)(hb:p→W P G N b Q T st):W P G N (.cond g a b) Q T st:=IL (hK.QU hg) (fun h=>ha (by simpa using h)) fun h=>hb (by simpa using h)
theorem oQ{args:Array Operand}{tys:Array TypeId}{l:List AV}{u:AV}(hK:QE K T)(hM:Mem h0 n0 X st M)(h: ∃v st',Ev P G f l st v st'∧v=u∧Qt st st')(ha:JF (QD G K) args.toList=some l)(hN:Nat.ble (d+1) N=true)(hn: ∀T' st',QE ((d,u)::K) T'→Mem h0 n0 X st' M→WR P G N ops rest R T' st'):
  WR P G N ops (⟨some d,.call {callee:=.value (.func f),args:=args,argTypes:=tys},ty,pos,af,none⟩::rest) R T st:=by
 obtain⟨v,st',ev,rfl,q⟩:=h;exact o1 hK (Qf ha ev) hN fun T' hK'=>hn T' st' hK' (hM.quiet q)
theorem oR{args:Array Operand}{tys:Array TypeId}{l:List AV}{u:AV}(k:Nat){c m m':Nat}{r r':List AV}(hK:QE K T)(hM:Mem h0 n0 X st M)(h: ∃v st',Ev P G f l st v st'∧v=u∧yQ [c] st st'∧Qw st'.h.get c m' r')(hk:M[k]? =some (c,m,r))(ha:JF (QD G K) args.toList=some l)(hN:Nat.ble (d+1) N=true)(hn: ∀T' st',QE ((d,u)::K) T'→Mem h0 n0 X st' (M.set k (c,m',r'))→WR P G N ops rest R T' st'):
  WR P G N ops (⟨some d,.call {callee:=.value (.func f),args:=args,argTypes:=tys},ty,pos,af,none⟩::rest) R T st:=by
 obtain⟨v,st',ev,rfl,q,w⟩:=h;exact o1 hK (Qf ha ev) hN fun T' hK'=>hn T' st' hK' (hM.qU hk q w)
theorem xI{fn:Func}{c:Code}{N:Nat}{rs:List ResultVar}{args:List AV}{Q:AV→St→Prop}(hs:G.s f=none)(hf:P.funcs[f]? =some fn)(hb:fn.body=some c)(hN:fn.ntmps=N)(hr:fn.results.toList=rs)
 (h: ∀T,(∀t,U8 T t=(args[t]?).getD (.tup []))→W P G N c (fun x T st=>(x=.nor∨x=.ret)∧ ∃v,Jb P rs T st=some v∧Q v st) T st) (hname:(fn.name== "runtime.NumGoroutine")=false:=by decide) (hl:args.length≤N:=by simp): ∃v st',Ev P G f args st v st'∧Q v st':=zk hs hf hb hN hr hname hl h
theorem rt1{t:Nat}{v:AV}(hK:QE K T)(h:K.lookup t=some v):Jb P [.tmp t] T st=some v:=Iy (US hK h)
theorem rt2{t s:Nat}{u v:AV}(hK:QE K T)(h:K.lookup t=some u)(h':K.lookup s=some v):Jb P [.tmp t,.tmp s] T st=some (.tup [u,v]):=Ya (US hK h) (US hK h')
theorem rtA{a:Nat}{t:TypeId}{l r:List AV} [ht:TA P t n](k:Nat){c m off:Nat}(hK:QE K T)(hM:Mem h0 n0 X st M)(h:K.lookup a=some (.ptr c m off))(hk:M[k]? =some (c,m,l))(hl:Wn n (Wp off l) (fun r=>some (AV.agg r))=some (.agg r)):Jb P [.cell a t] T st=some (.agg r):=Iy (UZ hK h (hM.load hk (Jc ht.h hl)))
theorem eM{op:Op}{p:Prop} [Decidable p](hK:QE K T)(h:Uf P G K op st (.bool (decide p)) st)(hN:Nat.ble (d+1) N=true)(hf: ∀T',¬p→QE ((d,.bool false)::K) T'→WR P G N ops rest R T' st)(ht: ∀T',p→QE ((d,.bool true)::K) T'→WR P G N ops rest R T' st):WR P G N ops (⟨some d,op,ty,pos,af,none⟩::rest) R T st:=oB hK h hN (fun b T' e K'=>by cases b;exact hf T' (of_decide_eq_false e) K';exact ht T' (of_decide_eq_true e) K')
theorem eN{op:Op}{p:Prop} [Decidable p](hK:QE K T)(h:Uf P G K op st (.bool (!decide p)) st)(hN:Nat.ble (d+1) N=true)(hf: ∀T',p→QE ((d,.bool false)::K) T'→WR P G N ops rest R T' st)(ht: ∀T',¬p→QE ((d,.bool true)::K) T'→WR P G N ops rest R T' st):WR P G N ops (⟨some d,op,ty,pos,af,none⟩::rest) R T st:=oB hK h hN (fun b T' e K'=>by cases b;exact hf T' ((by simpa using e)) K';exact ht T' ((by simpa using e)) K')
theorem uQ{op:Op}{p:Prop} [Decidable p](hK:QE K T)(hd:U6 ops jj=some tt)(hb:K.lookup tt=some (.bool pol))(h:Uf P G K op st (.bool (decide p)) st)(hN:Nat.ble (d+1) N=true)(hf: ∀T',¬p→QE ((d,.bool false)::K) T'→WR P G N ops rest R T' st)(ht: ∀T',p→QE ((d,.bool true)::K) T'→WR P G N ops rest R T' st):WR P G N ops (⟨some d,op,ty,pos,af,some (jj,pol)⟩::rest) R T st:=ea hK hd hb h hN (fun b T' e K'=>by cases b;exact hf T' (of_decide_eq_false e) K';exact ht T' (of_decide_eq_true e) K')
theorem eL{op:Op}{p:Prop} [Decidable p](hK:QE K T)(hd:U6 ops jj=some tt)(hb:K.lookup tt=some (.bool pol))(h:Uf P G K op st (.bool (!decide p)) st)(hN:Nat.ble (d+1) N=true)(hf: ∀T',p→QE ((d,.bool false)::K) T'→WR P G N ops rest R T' st)(ht: ∀T',¬p→QE ((d,.bool true)::K) T'→WR P G N ops rest R T' st):WR P G N ops (⟨some d,op,ty,pos,af,some (jj,pol)⟩::rest) R T st:=ea hK hd hb h hN (fun b T' e K'=>by cases b;exact hf T' ((by simpa using e)) K';exact ht T' ((by simpa using e)) K')
theorem Uv{x:Operand}{p:Prop} [Decidable p](hK:QE K T)(hx:QD G K x=some (.bool (decide p)))(hf: ∀T',¬p→QE ((d,.bool false)::K) T'→WR P G N ops rest R T' st)(ht: ∀T',p→QE ((d,.bool true)::K) T'→WR P G N ops rest R T' st)(hN:Nat.ble (d+1) N=true:=by exact rfl):WR P G N ops (⟨some d,.move x,ty,pos,af,none⟩::rest) R T st:=eM hK (QA hx) hN hf ht
theorem vr{x:Operand}{p:Prop} [Decidable p](hK:QE K T)(hx:QD G K x=some (.bool (!decide p)))(hf: ∀T',p→QE ((d,.bool false)::K) T'→WR P G N ops rest R T' st)(ht: ∀T',¬p→QE ((d,.bool true)::K) T'→WR P G N ops rest R T' st)(hN:Nat.ble (d+1) N=true:=by exact rfl):WR P G N ops (⟨some d,.move x,ty,pos,af,none⟩::rest) R T st:=eN hK (QA hx) hN hf ht
theorem dBp{op:Op}{p:Prop} [Decidable p](ho:ops[i]? =some (⟨some d,op,ty,pos,af,none⟩))(hK:QE K T)(h:Uf P G K op st (.bool (decide p)) st)(hk:Nat.beq (Qy P op) 3=false)(hN:Nat.ble (d+1) N=true)(hf: ∀T',¬p→QE ((d,.bool false)::K) T'→WD P G N ops (w.map (UI ops)) R T' st sn)(ht: ∀T',p→QE ((d,.bool true)::K) T'→WD P G N ops (w.map (UI ops)) R T' st sn):WD P G N ops (((i,0)::w).map (UI ops)) R T st sn:=dB ho hK h hk hN (fun b T' e K'=>by cases b;exact hf T' (of_decide_eq_false e) K';exact ht T' (of_decide_eq_true e) K')
theorem dBn{op:Op}{p:Prop} [Decidable p](ho:ops[i]? =some (⟨some d,op,ty,pos,af,none⟩))(hK:QE K T)(h:Uf P G K op st (.bool (!decide p)) st)(hk:Nat.beq (Qy P op) 3=false)(hN:Nat.ble (d+1) N=true)(hf: ∀T',p→QE ((d,.bool false)::K) T'→WD P G N ops (w.map (UI ops)) R T' st sn)(ht: ∀T',¬p→QE ((d,.bool true)::K) T'→WD P G N ops (w.map (UI ops)) R T' st sn):WD P G N ops (((i,0)::w).map (UI ops)) R T st sn:=dB ho hK h hk hN (fun b T' e K'=>by cases b;exact hf T' ((by simpa using e)) K';exact ht T' ((by simpa using e)) K')
def vc:Nat→List AV→List (Nat×AV)
 |_,[]=>[]
 |i,v::l=>(i,v)::vc (i+1) l
theorem R4: ∀(l:List AV) (i:Nat),(∀t,i≤t→U8 T t=(l[t-i]?).getD (.tup []))→QE (vc i l) T
 |[],_,_=>.nil
 |v::l,i,h=>.cons (by have:=h i (Nat.le_refl _);rwa [Nat.sub_self]at this) (R4 l (i+1) fun t ht=>by
  have:=h t Qe;rw[show t-i=t-(i+1)+1 by omega]at this
  exact this)
theorem Jq{fn:Func}{c:Code}{N:Nat}{args:List AV}{Q:AV→St→Prop}(hf:P.funcs[f]? =some fn)(hN:fn.ntmps=N)
 (h: ∀T,QE (vc 0 args) T→W P G N c (fun x T st=>(x=.nor∨x=.ret)∧ ∃v,Jb P fn.results.toList T st=some v∧Q v st) T st) (hs:G.s f=none:=by rfl) (hb:fn.body=some c:=by rfl) (hname:(fn.name== "runtime.NumGoroutine")=false:=by decide) (hl:args.length≤N:=by simp): ∃v st',Ev P G f args st v st'∧Q v st':=zk hs hf hb hN rfl hname hl fun T hT=>h T (R4 args 0 fun t _=>hT t)
theorem oI{x i:Operand}{t:TypeId}{k:IntKind}{v:AV}{z j:Nat}(hR:Je st.h.get Y z ls ks)(hi:ls[j]? =some cs)(hK:QE K T)(he:JK P t=some z)(ht:tk P t'=.one)(hx:QD G K x=some ks)(hy:QD G K i=some (.int k (j:Int)))(hv:cs[0]? =some v)(hn: ∀c m o T',QE ((d2,v)::(d,.ptr c m o)::K) T'→WR P G N ops rest R T' st)(hN:Nat.ble (d+1) N=true:=by exact rfl)(hN2:Nat.ble (d2+1) N=true:=by exact rfl):WR P G N ops (⟨some d,.indexAddr t x i,ty,pos,af,none⟩::⟨some d2,.load t' (.tmp d),ty2,pos2,af2,none⟩::rest) R T st:=by
 obtain⟨c,m,off,rfl,_,la,lo,_⟩:=hR.load (P:=P) hi;exact o1 hK (Qs he hx hy (List.getElem?_eq_some_iff.1 hi).1) hN fun T' K'=>o1 K' (Qh (show QD G (_::K) (.tmp d)=_ by show List.lookup d _=_;rw[List.lookup_cons];simp) (lo _ 0 _ ht hv)) hN2 fun T'' K''=>hn _ _ _ _ K''
theorem dI{x i:Operand}{t:TypeId}{k:IntKind}{v:AV}{z j:Nat}{i1 i2:Nat}{r:List (Nat×Nat)}(ho:ops[i1]? =some ⟨some d,.indexAddr t x i,ty,pos,af,none⟩)(ho2:ops[i2]? =some ⟨some d2,.load t' (.tmp d),ty2,pos2,af2,none⟩)(hR:Je st.h.get Y z ls ks)(hi:ls[j]? =some cs)(hK:QE K T)(he:JK P t=some z)(ht:tk P t'=.one)(hx:QD G K x=some ks)(hy:QD G K i=some (.int k (j:Int)))(hv:cs[0]? =some v)(hn: ∀c m o T',QE ((d2,v)::(d,.ptr c m o)::K) T'→WD P G N ops (r.map (UI ops)) R T' st sn)(hN:Nat.ble (d+1) N=true:=by exact rfl)(hN2:Nat.ble (d2+1) N=true:=by exact rfl):WD P G N ops (((i1,0)::(i2,0)::r).map (UI ops)) R T st sn:=by
 obtain⟨c,m,off,rfl,_,la,lo,_⟩:=hR.load (P:=P) hi;exact d1 ho hK (Qs he hx hy (List.getElem?_eq_some_iff.1 hi).1) rfl hN fun T' K'=>d1 ho2 K' (Qh (show QD G (_::K) (.tmp d)=_ by show List.lookup d _=_;rw[List.lookup_cons];simp) (lo _ 0 _ ht hv)) rfl hN2 fun T'' K''=>hn _ _ _ _ K''
theorem vt{x i:Operand}{t:TypeId}{k:IntKind}{z j:Nat}(hR:Je st.h.get Y z ls ks)(hi:ls[j]? =some cs)(hK:QE K T)(he:JK P t=some z)(ht:tk P t'=.agg z)(hx:QD G K x=some ks)(hy:QD G K i=some (.int k (j:Int)))(hn: ∀c m o T',QE ((d2,.agg cs)::(d,.ptr c m o)::K) T'→WR P G N ops rest R T' st)(hN:Nat.ble (d+1) N=true:=by exact rfl)(hN2:Nat.ble (d2+1) N=true:=by exact rfl):WR P G N ops (⟨some d,.indexAddr t x i,ty,pos,af,none⟩::⟨some d2,.load t' (.tmp d),ty2,pos2,af2,none⟩::rest) R T st:=by
 obtain⟨c,m,off,rfl,_,la,lo,_⟩:=hR.load (P:=P) hi;exact o1 hK (Qs he hx hy (List.getElem?_eq_some_iff.1 hi).1) hN fun T' K'=>o1 K' (Qh (show QD G (_::K) (.tmp d)=_ by show List.lookup d _=_;rw[List.lookup_cons];simp) (la _ ht)) hN2 fun T'' K''=>hn _ _ _ _ K''
theorem eH{x i:Operand}{t:TypeId}{k:IntKind}{z j:Nat}{i1 i2:Nat}{r:List (Nat×Nat)}(ho:ops[i1]? =some ⟨some d,.indexAddr t x i,ty,pos,af,none⟩)(ho2:ops[i2]? =some ⟨some d2,.load t' (.tmp d),ty2,pos2,af2,none⟩)(hR:Je st.h.get Y z ls ks)(hi:ls[j]? =some cs)(hK:QE K T)(he:JK P t=some z)(ht:tk P t'=.agg z)(hx:QD G K x=some ks)(hy:QD G K i=some (.int k (j:Int)))(hn: ∀c m o T',QE ((d2,.agg cs)::(d,.ptr c m o)::K) T'→WD P G N ops (r.map (UI ops)) R T' st sn)(hN:Nat.ble (d+1) N=true:=by exact rfl)(hN2:Nat.ble (d2+1) N=true:=by exact rfl):WD P G N ops (((i1,0)::(i2,0)::r).map (UI ops)) R T st sn:=by
 obtain⟨c,m,off,rfl,_,la,lo,_⟩:=hR.load (P:=P) hi;exact d1 ho hK (Qs he hx hy (List.getElem?_eq_some_iff.1 hi).1) rfl hN fun T' K'=>d1 ho2 K' (Qh (show QD G (_::K) (.tmp d)=_ by show List.lookup d _=_;rw[List.lookup_cons];simp) (la _ ht)) rfl hN2 fun T'' K''=>hn _ _ _ _ K''
theorem YU{a b:Code}{t:Bool}(hK:QE K T)(hg:QD G K g=some (.bool t))(ha:t=true→W P G N a Q T st)(hb:t=false→W P G N b Q T st):W P G N (.cond g a b) Q T st:=IL (hK.QU hg) ha hb
theorem p1{op:Op}{v:AV}(hK:QE K T)(h:Uf P G K op st v st1)(hn: ∀T',QE ((d,v)::K) T'→WR P G N ops rest R T' st1)(hN:Nat.ble (d+1) N=true:=by exact rfl):WR P G N ops (⟨some d,op,ty,pos,af,none⟩::rest) R T st:=o1 hK h hN hn
theorem pg{j t:Nat}{op:Op}{v:AV}(hK:QE K T)(ht:U6 ops j=some t)(hb:K.lookup t=some (.bool pol))(h:Uf P G K op st v st1)(hn: ∀T',QE ((d,v)::K) T'→WR P G N ops rest R T' st1)(hN:Nat.ble (d+1) N=true:=by exact rfl):WR P G N ops (⟨some d,op,ty,pos,af,some (j,pol)⟩::rest) R T st:=og hK ht hb h hN hn
theorem q1{r:List (Nat×Nat)}{op:Op}{v:AV}(ho:ops[i]? =some ⟨some d,op,ty,pos,af,none⟩)(hK:QE K T)(h:Uf P G K op st v st1)(hn: ∀T',QE ((d,v)::K) T'→WD P G N ops (r.map (UI ops)) R T' st1 sn)(hk:Nat.beq (Qy P op) 3=false:=by exact rfl)(hN:Nat.ble (d+1) N=true:=by exact rfl):WD P G N ops (((i,0)::r).map (UI ops)) R T st sn:=d1 ho hK h hk hN hn
theorem qA{r:List (Nat×Nat)}{op:Op}{v:AV}(ho:ops[i]? =some ⟨some d,op,ty,pos,af,none⟩)(hK:QE K T)(h:Uf P G K op st v st1)(hn: ∀T',QE ((d,v)::K) T'→WD P G N ops (r.map (UI ops)) R T' st1 (st1::sn))(hk:Nat.beq (Qy P op) 3=true:=by exact rfl)(hN:Nat.ble (d+1) N=true:=by exact rfl):WD P G N ops (((i,0)::r).map (UI ops)) R T st sn:=dA ho hK h hk hN hn
end
end Go.Proofs.YtildagdnomiahaaGreatDoor
