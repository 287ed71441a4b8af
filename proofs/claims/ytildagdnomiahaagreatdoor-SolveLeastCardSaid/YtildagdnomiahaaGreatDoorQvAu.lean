/-
  Straight runs of operations in one step.
-/
import Derived.Test.YtildagdnomiahaaGreatDoorQvTyc
namespace Go.Proofs.YtildagdnomiahaaGreatDoor
open Go Go.RowKit
set_option linter.unusedVariables false
set_option linter.unusedSectionVars false
variable {F:Tr AV→St→Prop} {Y:List Nat} {af2:Array Edge} {cs:List AV} {d2 i id jj n t1 tt:Nat} {f:FuncId} {g:Operand} {ks:AV} {ls:List (List AV)} {pol:Bool} {pos2:String} {sn:List St} {st1:St} {t' ty2:TypeId} {w:List (Nat×Nat)}

class FO(P:Program)(t:TypeId)(f:Nat)(o:outParam Nat):Prop where
 h:Q5 P t f=some o
class T1(P:Program)(t:TypeId):Prop where
 h:tk P t=.one
class TA(P:Program)(t:TypeId)(n:outParam Nat):Prop where
 h:tk P t=.agg n
class ZE(P:Program)(t:TypeId)(l:outParam (List AV)):Prop where
 h:zeroOf P t=some l
class SZ(P:Program)(t:TypeId)(n:outParam Nat):Prop where
 h:UX P t=some n
class UL(P:Program)(t:TypeId):Prop where
 h: ∃e,P.underlying t=some (.slice e)
class ST(P:Program)(t:TypeId)(tbl:outParam (List (Nat×Nat)))(z:outParam (List AV)):Prop where
 h:P3 P t tbl z
class SL(P:Program)(t:TypeId)(e:outParam TypeId)(z:outParam Nat):Prop where
 h:F8 P t e z
instance :FO Tryz.prog 40 0 0:=⟨Oo⟩
instance :FO Tryz.prog 40 1 1:=⟨On⟩
instance :FO Tryz.prog 44 0 0:=⟨Ox⟩
instance :FO Tryz.prog 44 1 1:=⟨Ow⟩
instance :FO Tryz.prog 44 2 2:=⟨Ov⟩
instance :FO Tryz.prog 44 3 3:=⟨Ou⟩
instance :FO Tryz.prog 44 4 4:=⟨Ot⟩
instance :FO Tryz.prog 44 5 5:=⟨Oq⟩
instance :FO Tryz.prog 201 0 0:=⟨O0⟩
instance :FO Tryz.prog 201 1 1:=⟨Oz⟩
instance :FO Tryz.prog 201 2 2:=⟨Oy⟩
instance :FO Tryz.prog 123 0 0:=⟨Ip⟩
instance :FO Tryz.prog 123 1 1:=⟨Io⟩
instance :FO Tryz.prog 296 0 0:=⟨Kk⟩
instance :FO Tryz.prog 296 1 1:=⟨Kj⟩
instance :FO Tryz.prog 250 0 0:=⟨Om⟩
instance :FO Tryz.prog 250 1 1:=⟨Ol⟩
instance :FO Tryz.prog 250 2 2:=⟨Oj⟩
instance :FO Tryz.prog 257 0 0:=⟨LZ⟩
instance :FO Tryz.prog 257 1 1:=⟨LY⟩
instance :FO Tryz.prog 257 2 2:=⟨LX⟩
instance :FO Tryz.prog 278 0 0:=⟨Kt⟩
instance :FO Tryz.prog 278 1 1:=⟨Ks⟩
instance :FO Tryz.prog 278 2 2:=⟨Kr⟩
instance :FO Tryz.prog 289 0 0:=⟨Kn⟩
instance :FO Tryz.prog 289 1 1:=⟨Km⟩
instance :FO Tryz.prog 289 2 2:=⟨Kl⟩
instance :FO Tryz.prog 301 0 0:=⟨Ho⟩
instance :FO Tryz.prog 301 1 1:=⟨Hn⟩
instance :FO Tryz.prog 301 2 2:=⟨Hm⟩
instance :FO Tryz.prog 354 0 0:=⟨Of⟩
instance :FO Tryz.prog 356 0 0:=⟨Oi⟩
instance :FO Tryz.prog 356 1 1:=⟨Oh⟩
instance :FO Tryz.prog 356 2 2:=⟨Og⟩
instance :FO Tryz.prog 338 0 0:=⟨Kq⟩
instance :FO Tryz.prog 338 1 1:=⟨Kp⟩
instance :FO Tryz.prog 338 2 2:=⟨Ko⟩
instance :T1 Tryz.prog 199:=⟨JP⟩
instance :TA Tryz.prog 201 3:=⟨Cv⟩
instance :T1 Tryz.prog 86:=⟨HU⟩
instance :T1 Tryz.prog 124:=⟨Ua⟩
instance :T1 Tryz.prog 205:=⟨Jo⟩
instance :T1 Tryz.prog 254:=⟨JZ⟩
instance :T1 Tryz.prog 255:=⟨FP⟩
instance :T1 Tryz.prog 328:=⟨Yw⟩
instance :TA Tryz.prog 282 3:=⟨TC⟩
instance :T1 Tryz.prog 286:=⟨YS⟩
instance :T1 Tryz.prog 287:=⟨Er⟩
instance :TA Tryz.prog 301 3:=⟨QU⟩
instance :ZE Tryz.prog 201 [.int .i64 0,.nils,.nils]:=⟨El⟩
instance :ZE Tryz.prog 124 [.nilp]:=⟨AK⟩
instance :ZE Tryz.prog 123 [.int .i64 0,.bool false]:=⟨Ej⟩
instance :ZE Tryz.prog 296 [.nilp,.nilp]:=⟨AH⟩
instance :ZE Tryz.prog 250 [.nils,.nils,.nilp]:=⟨I8⟩
instance :ZE Tryz.prog 257 [.int .i64 0,.nils,.nilm]:=⟨FI⟩
instance :ZE Tryz.prog 328 [.nili]:=⟨Ek⟩
instance :ZE Tryz.prog 278 [.int .i64 0,.bool false,.int .i64 0]:=⟨V8⟩
instance :ZE Tryz.prog 282 [.int .i64 0,.int .i64 0,.int .i64 0]:=⟨O9⟩
instance :ZE Tryz.prog 289 [.nilm,.nils,.nilp]:=⟨AI⟩
instance :ZE Tryz.prog 301 [.nilf,.int .i64 0,.int .i64 0]:=⟨WV⟩
instance :ZE Tryz.prog 354 [.int .i64 0]:=⟨I6⟩
instance :ZE Tryz.prog 356 [.int .i64 0,.int .i64 0,.int .i64 0]:=⟨I7⟩
instance :ZE Tryz.prog 338 [.nilp,.nilf,.nilm]:=⟨AJ⟩
instance :T1 Tryz.prog 3:=⟨Qs⟩
instance :T1 Tryz.prog 4:=⟨Vt⟩
instance :T1 Tryz.prog 9:=⟨HT⟩
instance :TA Tryz.prog 40 3:=⟨Xg⟩
instance :T1 Tryz.prog 42:=⟨NN⟩
instance :TA Tryz.prog 44 6:=⟨Jh⟩
instance :TA Tryz.prog 222 2:=⟨OF⟩
instance :T1 Tryz.prog 48:=⟨Jn⟩
instance :ZE Tryz.prog 3 [.int .i64 0]:=⟨HJ⟩
instance :ZE Tryz.prog 4 [.bool false]:=⟨EW⟩
instance :ZE Tryz.prog 9 [.str []]:=⟨O8⟩
instance :ZE Tryz.prog 40 [.str [],.int .i64 0,.int .i64 0]:=⟨Ck⟩
instance :ZE Tryz.prog 44 [.str [],.int .i64 0,.int .i64 0,.int .i64 0,.int .i64 0,.nils]:=⟨Zn⟩
instance :ZE Tryz.prog 222 [.int .i64 0,.int .i64 0]:=⟨Zo⟩
instance :ZE Tryz.prog 48 [.nils]:=⟨Yt⟩
instance :SZ Tryz.prog 199 1:=⟨VX⟩
instance :SZ Tryz.prog 201 3:=⟨Xh⟩
instance :SZ Tryz.prog 254 1:=⟨AN⟩
instance :SZ Tryz.prog 278 3:=⟨AM⟩
instance :SZ Tryz.prog 282 3:=⟨TD⟩
instance :SZ Tryz.prog 287 1:=⟨IB⟩
instance :SZ Tryz.prog 301 3:=⟨Kd⟩
instance :SZ Tryz.prog 356 3:=⟨C3⟩
instance :SZ Tryz.prog 3 1:=⟨GI⟩
instance :SZ Tryz.prog 4 1:=⟨Ae⟩
instance :SZ Tryz.prog 40 3:=⟨C4⟩
instance :SZ Tryz.prog 44 6:=⟨Ub⟩
instance :SZ Tryz.prog 222 2:=⟨TE⟩
instance :SZ Tryz.prog 48 1:=⟨XP⟩
instance :UL Tryz.prog 22:=⟨_,QJ⟩
instance :UL Tryz.prog 47:=⟨_,I9⟩
instance :SL Tryz.prog 47 9 1:=⟨CE⟩
instance :UL Tryz.prog 42:=⟨_,JI⟩
instance :ST Tryz.prog 44 [(0,1),(1,1),(2,1),(3,1),(4,1),(5,1)] [.str [],.int .i64 0,.int .i64 0,.int .i64 0,.int .i64 0,.nils]:=⟨CA⟩
instance :UL Tryz.prog 48:=⟨_,Jm⟩
instance :SL Tryz.prog 42 44 6:=⟨ZW⟩
instance :SL Tryz.prog 48 3 1:=⟨QR⟩
instance :UL Tryz.prog 199:=⟨_,VS⟩
instance :ST Tryz.prog 201 [(0,1),(1,1),(2,1)] [.int .i64 0,.nils,.nils]:=⟨IF⟩
instance :ST Tryz.prog 123 [(0,1),(1,1)] [.int .i64 0,.bool false]:=⟨Lo⟩
instance :ST Tryz.prog 296 [(0,1),(1,1)] [.nilp,.nilp]:=⟨NO⟩
instance :ST Tryz.prog 250 [(0,1),(1,1),(2,1)] [.nils,.nils,.nilp]:=⟨IE⟩
instance :UL Tryz.prog 193:=⟨_,WX⟩
instance :UL Tryz.prog 254:=⟨_,ZV⟩
instance :ST Tryz.prog 257 [(0,1),(1,1),(2,1)] [.int .i64 0,.nils,.nilm]:=⟨GL⟩
instance :ST Tryz.prog 278 [(0,1),(1,1),(2,1)] [.int .i64 0,.bool false,.int .i64 0]:=⟨NR⟩
instance :UL Tryz.prog 287:=⟨_,Xf⟩
instance :ST Tryz.prog 289 [(0,1),(1,1),(2,1)] [.nilm,.nils,.nilp]:=⟨NP⟩
instance :ST Tryz.prog 301 [(0,1),(1,1),(2,1)] [.nilf,.int .i64 0,.int .i64 0]:=⟨Ke⟩
instance :ST Tryz.prog 354 [(0,1)] [.int .i64 0]:=⟨C8⟩
instance :ST Tryz.prog 356 [(0,1),(1,1),(2,1)] [.int .i64 0,.int .i64 0,.int .i64 0]:=⟨C9⟩
instance :ST Tryz.prog 338 [(0,1),(1,1),(2,1)] [.nilp,.nilf,.nilm]:=⟨NQ⟩
instance :SL Tryz.prog 199 4 1:=⟨Yc⟩
instance :SL Tryz.prog 193 124 1:=⟨UW⟩
instance :SL Tryz.prog 254 328 1:=⟨VA⟩
instance :SL Tryz.prog 287 222 2:=⟨Eu⟩
abbrev iZ(z:Int):AV:=.int .i64 z
abbrev iN(n:Nat):AV:=.int .i64 n
def SG(j:Nat)(q:St→Prop)(h0:Hp)(n0:Nat)(X:List Nat)(K:List (Nat×AV))(M:List (Nat×Nat×List AV))(F:Tr AV→St→Prop):Prop:= ∀T st,QH K T→q st→Mem h0 n0 X st M→F T st
def To(g g':Prop):Prop:=g'→g
structure PO(P:Program)(G:Env)(h0:Hp)(n0:Nat)(X:List Nat)(K:List (Nat×AV))(M:List (Nat×Nat×List AV))(op:Op)(v:AV):Prop where
 h: ∀st,Mem h0 n0 X st M→Us P G K op st v st
section
variable {j:Nat} {q:St→Prop} {P:Program} {G:Env} {N:Nat} {h0:Hp} {n0:Nat} {X:List Nat} {K:List (Nat×AV)} {M:List (Nat×Nat×List AV)} {g':Prop} {ops rest:List Oper} {R:Tr AV→St→Prop} {Q:Ex→Tr AV→St→Prop} {d:Nat} {ty:TypeId} {pos:String} {af:Array Edge} {st:St} {op:Op} {u v:AV} {x y:Operand} {t yt:TypeId} {k:IntKind} {a b:Int} {r l:List AV} {c m off:Nat} {A B:Bool} {tys:Array TypeId} {s z:List Nat}
theorem eJ(h:QG G K x=some v):PO P G h0 n0 X K M (.move x) (v):=⟨fun _ hM=>Q8 h⟩
theorem jE(h:QG G K x=some v):PO P G h0 n0 X K M (.assign x) (v):=⟨fun _ hM=>Uu h⟩
theorem Fh [ht:T1 P t](i:Nat)(h:QG G K x=some (.ptr c m off))(h1:M[i]? =some (c,m,l))(h2:nth l off=some v):PO P G h0 n0 X K M (.load t x) v:=⟨fun _ hM=>Qi h (hM.load h1 (Qc ht.h h2))⟩
theorem WE [ht:TA P t n](i:Nat)(h:QG G K x=some (.ptr c m off))(h1:M[i]? =some (c,m,l))(h2:VW n (Wr off l) (fun r=>some (AV.agg r))=some (.agg r)):PO P G h0 n0 X K M (.load t x) (.agg r):=⟨fun _ hM=>Qi h (hM.load h1 (QZ ht.h h2))⟩
theorem iH{f o:Nat} [ho:FO P t f o](h:QG G K x=some (.ptr c m off)):PO P G h0 n0 X K M (.fieldAddr t x f) (.ptr c m (off+o)):=⟨fun _ hM=>Uz ho.h h⟩
theorem eI(h:QG G K x=some (.ptr c m off)):PO P G h0 n0 X K M (.nilCheck x) (.ptr c m off):=⟨fun _ hM=>eN h rfl⟩
theorem iI(h:QG G K x=some (.tup l))(h':nth l i=some v):PO P G h0 n0 X K M (.extract x i) (v):=⟨fun _ hM=>Re h h'⟩
theorem eH{w1 w2:Operand}(h:QG G K x=some (.bool A))(h1:QG G K w1=some u)(h2:QG G K w2=some v):PO P G h0 n0 X K M (.pick x w1 w2) (Qj A u v):=⟨fun _ hM=>xC h h1 h2⟩
theorem iA(h:QG G K x=some (.bool A)):PO P G h0 n0 X K M (.unOp .not t x) (.bool (!A)):=⟨fun _ hM=>jK h⟩
theorem iD(h:QG G K x=some (.int k a))(h':QG G K y=some (.int k b)):PO P G h0 n0 X K M (.binOp .lss t x y yt) (.bool (decide (a<b))):=⟨fun _ hM=>eP h h'⟩
theorem iF(h:QG G K x=some (.int k a))(h':QG G K y=some (.int k b)):PO P G h0 n0 X K M (.binOp .gtr t x y yt) (.bool (decide (b<a))):=⟨fun _ hM=>eS h h'⟩
theorem iE(h:QG G K x=some (.int k a))(h':QG G K y=some (.int k b)):PO P G h0 n0 X K M (.binOp .leq t x y yt) (.bool (decide (a≤b))):=⟨fun _ hM=>eQ h h'⟩
theorem iG(h:QG G K x=some (.int k a))(h':QG G K y=some (.int k b)):PO P G h0 n0 X K M (.binOp .geq t x y yt) (.bool (decide (b≤a))):=⟨fun _ hM=>eT h h'⟩
theorem iK(h:QG G K x=some (.int k a))(h':QG G K y=some (.int k b)):PO P G h0 n0 X K M (.binOp .eql t x y yt) (.bool (decide (a=b))):=⟨fun _ hM=>jN h h'⟩
theorem iC(h:QG G K x=some (.int k a))(h':QG G K y=some (.int k b)):PO P G h0 n0 X K M (.binOp .neq t x y yt) (.bool (!decide (a=b))):=⟨fun _ hM=>jL h h'⟩
theorem iJ(h:QG G K x=some (.str s))(h':QG G K y=some (.str z)):PO P G h0 n0 X K M (.binOp .eql t x y yt) (.bool (decide (s=z))):=⟨fun _ hM=>JM h h'⟩
theorem iB(h:QG G K x=some (.str s))(h':QG G K y=some (.str z)):PO P G h0 n0 X K M (.binOp .neq t x y yt) (.bool (!decide (s=z))):=⟨fun _ hM=>Bf h h'⟩
theorem iL(h:QG G K x=some (.int .i64 a))(h':QG G K y=some (.int .i64 b))(h1: -9223372036854775808≤a+b)(h2:a+b≤9223372036854775807):PO P G h0 n0 X K M (.binOp .add t x y yt) (.int .i64 (a+b)):=⟨fun _ _=>eU h h' h1 h2⟩
theorem iz(h:QG G K x=some (.int .i64 a))(h':QG G K y=some (.int .i64 b))(h1: -9223372036854775808≤a-b)(h2:a-b≤9223372036854775807):PO P G h0 n0 X K M (.binOp .sub t x y yt) (.int .i64 (a-b)):=⟨fun _ _=>jI h h' h1 h2⟩
theorem eK [hu:UL P t](h:QG G K x=some u)(h':J8 u=some n):PO P G h0 n0 X K M (.call {callee:=.builtin .len,args:= #[x],argTypes:= #[t]}) (.int .i64 (n:Int)):=⟨fun _ _=>by obtain⟨e,hu⟩:=hu.h;exact Q0 hu rfl h h'⟩
theorem xy{parts:Array (Nat×Operand)}{ps:List (Nat×AV)}{tbl:List (Nat×Nat)}{zz:List AV} [hs:ST P t tbl zz](h:YD (QG G K) parts=some ps)(h':Xq (nth tbl) ps zz=some r):PO P G h0 n0 X K M (.build t parts) (.agg r):=⟨fun _ hM=>XW hs.h h h'⟩
theorem qS{k:Tr AV→St→Prop}(h:To (SG j q h0 n0 X K M (k)) g'):To (SG j q h0 n0 X K M (Le k Q .nor)) g':=h
theorem wo(h:To (SG j q h0 n0 X K M (Q .nor)) g'):To (SG j q h0 n0 X K M (BO id Q .nor)) g':=h
theorem wj{a b:Code}(h:To (SG j q h0 n0 X K M (W P G N (a) (Le (W P G N b Q) Q))) g'):To (SG j q h0 n0 X K M (W P G N (.seq a b) Q)) g':=fun h' T st hK hq hM=>Xc (h h' T st hK hq hM)
theorem Sm{c:Code}(h:To (SG j q h0 n0 X K M (W P G N (c) (BO id Q))) g'):To (SG j q h0 n0 X K M (W P G N (.block id c) Q)) g':=fun h' T st hK hq hM=>zO (h h' T st hK hq hM)
theorem qT(h:To (SG j q h0 n0 X K M (Q .nor)) g'):To (SG j q h0 n0 X K M (W P G N (.skip) Q)) g':=fun h' T st hK hq hM=>wZ (h h' T st hK hq hM)
theorem Sl{l:Nat}(h:To (SG j q h0 n0 X K M (Q .nor)) g'):To (SG j q h0 n0 X K M (W P G N (.label l) Q)) g':=fun h' T st hK hq hM=>zM (h h' T st hK hq hM)
theorem Cx{l:List Oper}(h:To (SG j q h0 n0 X K M (WR P G N l l (Q .nor))) g'):To (SG j q h0 n0 X K M (W P G N (.region id l.toArray false) Q)) g':=fun h' T st hK hq hM=>q6 (h h' T st hK hq hM)
theorem wk(h:To (SG j q h0 n0 X K M (R)) g'):To (SG j q h0 n0 X K M (WR P G N ops [] R)) g':=fun h' T st hK hq hM=>wW (h h' T st hK hq hM)
theorem ig{a b:Code}(hg:QG G K g=some (.bool true))(h:To (SG j q h0 n0 X K M (W P G N (a) Q)) g'):To (SG (j+1) q h0 n0 X K M (W P G N (.cond g a b) Q)) g':=fun h' T st hK hq hM=>Lb (hK.QN hg) (fun _=>h h' T st hK hq hM) (fun e=>by cases e)
theorem ij{a b:Code}(hg:QG G K g=some (.bool false))(h:To (SG j q h0 n0 X K M (W P G N (b) Q)) g'):To (SG (j+1) q h0 n0 X K M (W P G N (.cond g a b) Q)) g':=fun h' T st hK hq hM=>Lb (hK.QN hg) (fun e=>by cases e) (fun _=>h h' T st hK hq hM)
theorem lV(hp:PO P G h0 n0 X K M op v)(hN:Nat.ble (d+1) N=true)(h:To (SG j q h0 n0 X ((d,v)::K) M (WR P G N ops rest R)) g'):To (SG (j+1) q h0 n0 X K M (WR P G N ops (⟨some d,op,ty,pos,af,none⟩::rest) R)) g':=fun h' T st hK hq hM=>o1 hK (hp.h st hM) hN fun T' hK'=>h h' T' st hK' hq hM
theorem lW(hp:PO P G h0 n0 X K M op v)(hh:Ur ops jj=some tt∧K.lookup tt=some (.bool pol)∧Nat.ble (d+1) N=true)(h:To (SG j q h0 n0 X ((d,v)::K) M (WR P G N ops rest R)) g'):To (SG (j+1) q h0 n0 X K M (WR P G N ops (⟨some d,op,ty,pos,af,some (jj,pol)⟩::rest) R)) g':=fun h' T st hK hq hM=>og hK hh.1 hh.2.1 (hp.h st hM) hh.2.2 fun T' hK'=>h h' T' st hK' hq hM
theorem ie(hh:Ur ops jj=some tt∧K.lookup tt=some (.bool A)∧(A==pol)=false∧Nat.ble (d+1) N=true)(h:To (SG j q h0 n0 X ((d,.tup [])::K) M (WR P G N ops rest R)) g'):To (SG (j+1) q h0 n0 X K M (WR P G N ops (⟨some d,op,ty,pos,af,some (jj,pol)⟩::rest) R)) g':=fun h' T st hK hq hM=>gn hK hh.1 hh.2.1 hh.2.2.1 hh.2.2.2 fun T' hK'=>h h' T' st hK' hq hM
theorem wm(hh:Ur ops jj=some tt∧K.lookup tt=some (.tup [])∧Nat.ble (d+1) N=true)(h:To (SG j q h0 n0 X ((d,.tup [])::K) M (WR P G N ops rest R)) g'):To (SG (j+1) q h0 n0 X K M (WR P G N ops (⟨some d,op,ty,pos,af,some (jj,pol)⟩::rest) R)) g':=fun h' T st hK hq hM=>nE hK hh.1 hh.2.1 hh.2.2 fun T' hK'=>h h' T' st hK' hq hM
theorem W6 [hz:SZ P t n](i:Nat){r':List AV}(hh:QG G K x=some (.ptr c m off)∧QG G K y=some v∧M[i]? =some (c,m,r)∧(QO v).length=n∧XH Qw (QO v)=true∧YB (QO v) off r=some r')(h:To (SG j (fun _=>True) h0 n0 X K (M.set i (c,m,r')) (WR P G N ops rest R)) g'):To (SG (j+1) (fun _=>True) h0 n0 X K M (WR P G N ops (⟨none,.store t x y,ty,pos,af,none⟩::rest) R)) g':=fun h' T st hK _ hM=>Uh (k:=i) hK hM hh.1 hh.2.1 hh.2.2.1 hz.h hh.2.2.2.1 hh.2.2.2.2.1 hh.2.2.2.2.2 fun st' hM'=>h h' T st' hK trivial hM'
theorem xc{g:Nat→Prop} [hz:ZE P t l](hN:Nat.ble (d+1) N=true)(h: ∀c,To (SG j (fun _=>True) h0 n0 X ((d,.ptr c 0 0)::K) ((c,0,l)::M) (WR P G N ops rest R)) (g c)):To (SG (j+1) (fun _=>True) h0 n0 X K M (WR P G N ops (⟨some d,.alloc t,ty,pos,af,none⟩::rest) R)) (∀c,g c):=fun h' T st hK _ hM=>Cl hK hM hz.h (Nat.le_of_ble_eq_true hN) fun c T' st' hK' hM'=>h c (h' c) T' st' hK' trivial hM'
theorem ik{g:Nat→Prop}(hh:QG G K x=some v∧Nat.ble (d+1) N=true)(hc:True→XH Qw (QO v)=true)(h: ∀c,To (SG j (fun _=>True) h0 n0 X ((d,.ptr c 0 0)::K) ((c,0,QO v)::M) (WR P G N ops rest R)) (g c)):To (SG (j+1) (fun _=>True) h0 n0 X K M (WR P G N ops (⟨some d,.box t x,ty,pos,af,none⟩::rest) R)) (∀c,g c):=fun h' T st hK _ hM=>JK hK hM hh.1 (hc trivial) (Nat.le_of_ble_eq_true hh.2) fun c T' st' hK' hM'=>h c (h' c) T' st' hK' trivial hM'
theorem lk{g:Nat→Prop}{e:TypeId}{len w:Nat}{parts:Array (Nat×Operand)}{ps:List (Nat×AV)} [hs:SL P t e w] [hz:ZE P e l](hh:YD (QG G K) parts=some ps∧Xq (fun i=>some (i *w,w)) ps (XA len l)=some r∧XH Qw r=true∧Nat.ble (len *w) 16777216=true∧Nat.ble (d+1) N=true)(h: ∀c,To (SG j (fun _=>True) h0 n0 X ((d,.sl c 0 0 len w)::K) ((c,0,r)::M) (WR P G N ops rest R)) (g c)):To (SG (j+1) (fun _=>True) h0 n0 X K M (WR P G N ops (⟨some d,.buildSlice t len parts,ty,pos,af,none⟩::rest) R)) (∀c,g c):=fun h' T st hK _ hM=>VO hK hM hs.h hz.h hh.1 hh.2.1 hh.2.2.1 hh.2.2.2.1 hh.2.2.2.2 fun c T' st' hK' hM'=>h c (h' c) T' st' hK' trivial hM'
theorem ei{g:Prop}:To g g:=id
theorem xa:To (SG j (fun s=>s=st) h0 n0 X K M (F)) (∀T,QH K T→F T st):=fun h T _ hK hq hM=>hq▸h T hK
theorem kY{k:Tr AV→St→Prop}(h:To (SG j q h0 n0 X K M (W P G N (.ret) Q)) g'):To (SG j q h0 n0 X K M (W P G N (.ret) (Le k Q))) g':=fun h' T st hK hq hM=>Xd (by have h2:=h h' T st hK hq hM;obtain⟨L,n,x,T',st',h3,h4⟩:=h2;injection h3 with h3;injection h3 with h5 h6;injection h6 with h6 h7;subst h5 h6 h7;exact h4)
theorem kZ(h:To (SG j q h0 n0 X K M (W P G N (.ret) Q)) g'):To (SG j q h0 n0 X K M (W P G N (.ret) (BO id Q))) g':=fun h' T st hK hq hM=>Xd (by have h2:=h h' T st hK hq hM;obtain⟨L,n,x,T',st',h3,h4⟩:=h2;injection h3 with h3;injection h3 with h5 h6;injection h6 with h6 h7;subst h5 h6 h7;exact h4)
theorem lh{Z:AV→St→Prop}{rs:List ResultVar}(hr:rs=[.tmp t1])(hh:K.lookup t1=some v):To (SG j (fun s=>s=st) h0 n0 X K M (W P G N (.ret) (fun x T s=>(x=.nor∨x=.ret)∧ ∃v,QS P rs T s=some v∧Z v s))) (Z v st):=fun h' T s hK hq hM=>Xd ⟨.inr rfl,_,by rw[hr];exact KC (Yi hK hh),by subst hq;exact h'⟩
theorem lg{t2:Nat}{Z:AV→St→Prop}{rs:List ResultVar}(hr:rs=[.tmp t1,.tmp t2])(hh:K.lookup t1=some u∧K.lookup t2=some v):To (SG j (fun s=>s=st) h0 n0 X K M (W P G N (.ret) (fun x T s=>(x=.nor∨x=.ret)∧ ∃v,QS P rs T s=some v∧Z v s))) (Z (.tup [u,v]) st):=fun h' T s hK hq hM=>Xd ⟨.inr rfl,_,by rw[hr];exact Yo (Yi hK hh.1) (Yi hK hh.2),by subst hq;exact h'⟩
theorem eh{Z:AV→St→Prop}{rs:List ResultVar}(i:Nat)(ht:TA P t n)(hr:rs=[.cell t1 t])(hh:K.lookup t1=some (.ptr c m off)∧M[i]? =some (c,m,l)∧VW n (Wr off l) (fun r=>some (AV.agg r))=some (.agg r)):To (SG j (fun s=>s=st) h0 n0 X K M (W P G N (.ret) (fun x T s=>(x=.nor∨x=.ret)∧ ∃v,QS P rs T s=some v∧Z v s))) (Z (.agg r) st):=fun h' T s hK hq hM=>Xd ⟨.inr rfl,_,by rw[hr];exact KC (Yn hK hh.1 (hM.load hh.2.1 (QZ ht.h hh.2.2))),by subst hq;exact h'⟩
theorem kR(h:PO P G h0 n0 X K M op v:=by first|(apply eJ<;>exact rfl)|(apply jE<;>exact rfl)|(apply Fh 0<;>exact rfl)|(apply Fh 1<;>exact rfl)|(apply Fh 2<;>exact rfl)|(apply Fh 3<;>exact rfl)|(apply Fh 4<;>exact rfl)|(apply Fh 5<;>exact rfl)|(apply Fh 6<;>exact rfl)|(apply WE 0<;>exact rfl)|(apply WE 1<;>exact rfl)|(apply WE 2<;>exact rfl)|(apply WE 3<;>exact rfl)|(apply WE 4<;>exact rfl)|(apply WE 5<;>exact rfl)|(apply WE 6<;>exact rfl)|(apply iH<;>exact rfl)|(apply eI<;>exact rfl)|(apply iI<;>exact rfl)|(apply eH<;>exact rfl)|(apply iA<;>exact rfl)|(apply iD<;>exact rfl)|(apply iF<;>exact rfl)|(apply iE<;>exact rfl)|(apply iG<;>exact rfl)|(apply iK<;>exact rfl)|(apply iC<;>exact rfl)|(apply iJ<;>exact rfl)|(apply iB<;>exact rfl)|(apply iL;exact rfl;exact rfl;omega;omega)|(apply iz;exact rfl;exact rfl;omega;omega)|(apply eK<;>exact rfl)|(apply xy<;>exact rfl)):PO P G h0 n0 X K M op v:=h
theorem au(j:Nat){T:Tr AV}{st:St}(hK:QH K T)(hM:Mem h0 n0 X st M)(hn:g')(h:To (SG j (fun _=>True) h0 n0 X K M (F)) g':=by
 repeat' first
  |with_reducible refine' qS ?_
  |with_reducible refine' wo ?_
  |with_reducible refine' wj ?_
  |with_reducible refine' wk ?_
  |with_reducible refine' Sm ?_
  |with_reducible refine' qT ?_
  |with_reducible refine' Sl ?_
  |with_reducible refine' Cx ?_
  |((first|with_reducible refine' lV ?_ ?_ ?_|with_reducible refine' lW ?_ ?_ ?_);(any_goals exact kR);any_goals first|exact rfl|exact⟨rfl,rfl,rfl⟩)
  |((with_reducible refine' ie ?_ ?_);any_goals exact⟨rfl,rfl,rfl,rfl⟩)
  |((with_reducible refine' wm ?_ ?_);any_goals exact⟨rfl,rfl,rfl⟩)
  |((with_reducible refine' ig ?_ ?_);any_goals exact rfl)
  |((with_reducible refine' ij ?_ ?_);any_goals exact rfl)
  |((with_reducible refine' W6 0 ?_ ?_);any_goals exact⟨rfl,rfl,rfl,rfl,rfl,rfl⟩)
  |((with_reducible refine' W6 1 ?_ ?_);any_goals exact⟨rfl,rfl,rfl,rfl,rfl,rfl⟩)
  |((with_reducible refine' W6 2 ?_ ?_);any_goals exact⟨rfl,rfl,rfl,rfl,rfl,rfl⟩)
  |((with_reducible refine' W6 3 ?_ ?_);any_goals exact⟨rfl,rfl,rfl,rfl,rfl,rfl⟩)
  |((with_reducible refine' W6 4 ?_ ?_);any_goals exact⟨rfl,rfl,rfl,rfl,rfl,rfl⟩)
  |((with_reducible refine' W6 5 ?_ ?_);any_goals exact⟨rfl,rfl,rfl,rfl,rfl,rfl⟩)
  |((with_reducible refine' W6 6 ?_ ?_);any_goals exact⟨rfl,rfl,rfl,rfl,rfl,rfl⟩)
  |((with_reducible refine' xc ?_ fun _=>?_);any_goals exact rfl)
  |((with_reducible refine' lk ?_ fun _=>?_);any_goals exact⟨rfl,rfl,rfl,rfl,rfl⟩)
  |((with_reducible refine' ik ?_ ?_ fun _=>?_);(any_goals exact⟨rfl,rfl⟩);any_goals(intro(_:True);(repeat first|exact rfl|assumption|refine Qa ?_ ?_);done))
  |with_reducible exact ei):F T st:=h hn T st hK trivial hM
theorem Qb(j:Nat){T:Tr AV}{st:St}(hK:QH K T)(hM:Mem h0 n0 X st M)(hn:g')(h:To (SG j (fun s=>s=st) h0 n0 X K M (F)) g':=by
 repeat' first
  |with_reducible refine' qS ?_
  |with_reducible refine' wo ?_
  |with_reducible refine' wj ?_
  |with_reducible refine' wk ?_
  |with_reducible refine' Sm ?_
  |with_reducible refine' qT ?_
  |with_reducible refine' Sl ?_
  |with_reducible refine' Cx ?_
  |((first|with_reducible refine' lV ?_ ?_ ?_|with_reducible refine' lW ?_ ?_ ?_);(any_goals exact kR);any_goals first|exact rfl|exact⟨rfl,rfl,rfl⟩)
  |((with_reducible refine' ie ?_ ?_);any_goals exact⟨rfl,rfl,rfl,rfl⟩)
  |((with_reducible refine' wm ?_ ?_);any_goals exact⟨rfl,rfl,rfl⟩)
  |((with_reducible refine' ig ?_ ?_);any_goals exact rfl)
  |((with_reducible refine' ij ?_ ?_);any_goals exact rfl)
  |with_reducible refine' kY ?_
  |with_reducible refine' kZ ?_
  |((with_reducible refine' lh ?_ ?_);any_goals exact rfl)
  |((with_reducible refine' lg ?_ ?_);(any_goals exact rfl);any_goals exact⟨rfl,rfl⟩)
  |((with_reducible refine' eh 0 ?_ ?_ ?_);(any_goals exact rfl);(any_goals infer_instance);any_goals exact⟨rfl,rfl,rfl⟩)
  |((with_reducible refine' eh 1 ?_ ?_ ?_);(any_goals exact rfl);(any_goals infer_instance);any_goals exact⟨rfl,rfl,rfl⟩)
  |((with_reducible refine' eh 2 ?_ ?_ ?_);(any_goals exact rfl);(any_goals infer_instance);any_goals exact⟨rfl,rfl,rfl⟩)
  |with_reducible exact xa):F T st:=h hn T st hK rfl hM
def DG(P:Program)(G:Env)(N:Nat)(h0:Hp)(n0:Nat)(X:List Nat)(M:List (Nat×Nat×List AV))(st:St)(sn:List St)(ops:List Oper)(R:Tr AV→St→Prop)(j:Nat)(w:List (Nat×Nat))(K:List (Nat×AV)):Prop:=Mem h0 n0 X st M→ ∀T,QH K T→WD P G N ops (w.map (UY ops)) R T st sn
theorem nm(ho:ops[i]? =some (⟨some d,op,ty,pos,af,none⟩))(hp:PO P G h0 n0 X K M op v)(hh:Nat.beq (Qz P op) 3=false∧Nat.ble (d+1) N=true)(h:To (DG P G N h0 n0 X M st sn ops R j w ((d,v)::K)) g'):To (DG P G N h0 n0 X M st sn ops R (j+1) ((i,0)::w) K) g':=fun h' hM T hK=>d1 ho hK (hp.h st hM) hh.1 hh.2 fun T' hK'=>h h' hM T' hK'
theorem lj(ho:ops[i]? =some (⟨some d,op,ty,pos,af,some (jj,pol)⟩))(hp:PO P G h0 n0 X K M op v)(hh:Ur ops jj=some tt∧K.lookup tt=some (.bool pol)∧Nat.beq (Qz P op) 3=false∧Nat.ble (d+1) N=true)(h:To (DG P G N h0 n0 X M st sn ops R j w ((d,v)::K)) g'):To (DG P G N h0 n0 X M st sn ops R (j+1) ((i,0)::w) K) g':=fun h' hM T hK=>dg ho hK hh.1 hh.2.1 (hp.h st hM) hh.2.2.1 hh.2.2.2 fun T' hK'=>h h' hM T' hK'
theorem xb:To (DG P G N h0 n0 X M st sn ops R i w K) (∀T,QH K T→WD P G N ops (w.map (UY ops)) R T st sn):=fun h _=>h
theorem UT(j:Nat){T:Tr AV}(hK:QH K T)(hM:Mem h0 n0 X st M)(hn:g')(h:To (DG P G N h0 n0 X M st sn ops R j w K) g':=by
 repeat' first
  |((first|with_reducible refine' nm ?_ ?_ ?_ ?_);(any_goals exact rfl);(any_goals exact kR);any_goals exact⟨rfl,rfl⟩)
  |((with_reducible refine' lj ?_ ?_ ?_ ?_);(any_goals exact rfl);(any_goals exact kR);any_goals exact⟨rfl,rfl,rfl,rfl⟩)
  |with_reducible exact xb):WD P G N ops (w.map (UY ops)) R T st sn:=h hn hM T hK
end
section
variable {P:Program} {G:Env} {N:Nat} {h0:Hp} {n0:Nat} {X:List Nat} {K:List (Nat×AV)} {M:List (Nat×Nat×List AV)} {ops rest:List Oper} {R:Tr AV→St→Prop} {Q:Ex→Tr AV→St→Prop} {d:Nat} {ty:TypeId} {pos:String} {af:Array Edge} {T:Tr AV} {st:St}
theorem U8{a b:Code}{p:Prop} [Decidable p](hK:QH K T)(hg:QG G K g=some (.bool (decide p)))(ha:p→W P G N a Q T st)(hb: ¬p→W P G N b Q T st):W P G N (.cond g a b) Q T st:=Lb (hK.QN hg) (fun h=>ha (of_decide_eq_true h)) fun h=>hb (of_decide_eq_false h)
theorem kW{a b:Code}{p:Prop} [Decidable p](hK:QH K T)(hg:QG G K g=some (.bool (!decide p)))(ha: ¬p→W P G N a Q T st)(hb:p→W P G N b Q T st):W P G N (.cond g a b) Q T st:=Lb (hK.QN hg) (fun h=>ha (by simpa using h)) fun h=>hb (by simpa using h)
theorem oQ{args:Array Operand}{tys:Array TypeId}{l:List AV}{u:AV}(hK:QH K T)(hM:Mem h0 n0 X st M)(h: ∃v st',Ev P G f l st v st'∧v=u∧Qt st st')(ha:JB (QG G K) args.toList=some l)(hN:Nat.ble (d+1) N=true)(hn: ∀T' st',QH ((d,u)::K) T'→Mem h0 n0 X st' M→WR P G N ops rest R T' st'):
  WR P G N ops (⟨some d,.call {callee:=.value (.func f),args:=args,argTypes:=tys},ty,pos,af,none⟩::rest) R T st:=by
 obtain⟨v,st',ev,rfl,q⟩:=h;exact o1 hK (Qf ha ev) hN fun T' hK'=>hn T' st' hK' (hM.quiet q)
theorem oR{args:Array Operand}{tys:Array TypeId}{l:List AV}{u:AV}(k:Nat){c m m':Nat}{r r':List AV}(hK:QH K T)(hM:Mem h0 n0 X st M)(h: ∃v st',Ev P G f l st v st'∧v=u∧wb [c] st st'∧Qu st'.h.get c m' r')(hk:M[k]? =some (c,m,r))(ha:JB (QG G K) args.toList=some l)(hN:Nat.ble (d+1) N=true)(hn: ∀T' st',QH ((d,u)::K) T'→Mem h0 n0 X st' (M.set k (c,m',r'))→WR P G N ops rest R T' st'):
  WR P G N ops (⟨some d,.call {callee:=.value (.func f),args:=args,argTypes:=tys},ty,pos,af,none⟩::rest) R T st:=by
 obtain⟨v,st',ev,rfl,q,w⟩:=h;exact o1 hK (Qf ha ev) hN fun T' hK'=>hn T' st' hK' (hM.yR hk q w)
theorem aP{fn:Func}{c:Code}{N:Nat}{rs:List ResultVar}{args:List AV}{Q:AV→St→Prop}(hs:G.s f=none)(hf:P.funcs[f]? =some fn)(hb:fn.body=some c)(hN:fn.ntmps=N)(hr:fn.results.toList=rs)
 (h: ∀T,(∀t,Ux T t=(args[t]?).getD (.tup []))→W P G N c (fun x T st=>(x=.nor∨x=.ret)∧ ∃v,QS P rs T st=some v∧Q v st) T st) (hname:(fn.name== "runtime.NumGoroutine")=false:=by decide) (hl:args.length≤N:=by simp): ∃v st',Ev P G f args st v st'∧Q v st':=wF hs hf hb hN hr hname hl h
theorem rt1{t:Nat}{v:AV}(hK:QH K T)(h:K.lookup t=some v):QS P [.tmp t] T st=some v:=KC (Yi hK h)
theorem rt2{t s:Nat}{u v:AV}(hK:QH K T)(h:K.lookup t=some u)(h':K.lookup s=some v):QS P [.tmp t,.tmp s] T st=some (.tup [u,v]):=Yo (Yi hK h) (Yi hK h')
theorem rtA{a:Nat}{t:TypeId}{l r:List AV} [ht:TA P t n](k:Nat){c m off:Nat}(hK:QH K T)(hM:Mem h0 n0 X st M)(h:K.lookup a=some (.ptr c m off))(hk:M[k]? =some (c,m,l))(hl:VW n (Wr off l) (fun r=>some (AV.agg r))=some (.agg r)):QS P [.cell a t] T st=some (.agg r):=KC (Yn hK h (hM.load hk (QZ ht.h hl)))
theorem nu{op:Op}{p:Prop} [Decidable p](hK:QH K T)(h:Us P G K op st (.bool (decide p)) st)(hN:Nat.ble (d+1) N=true)(hf: ∀T',¬p→QH ((d,.bool false)::K) T'→WR P G N ops rest R T' st)(ht: ∀T',p→QH ((d,.bool true)::K) T'→WR P G N ops rest R T' st):WR P G N ops (⟨some d,op,ty,pos,af,none⟩::rest) R T st:=oB hK h hN (fun b T' e K'=>by cases b;exact hf T' (of_decide_eq_false e) K';exact ht T' (of_decide_eq_true e) K')
theorem nw{op:Op}{p:Prop} [Decidable p](hK:QH K T)(h:Us P G K op st (.bool (!decide p)) st)(hN:Nat.ble (d+1) N=true)(hf: ∀T',p→QH ((d,.bool false)::K) T'→WR P G N ops rest R T' st)(ht: ∀T',¬p→QH ((d,.bool true)::K) T'→WR P G N ops rest R T' st):WR P G N ops (⟨some d,op,ty,pos,af,none⟩::rest) R T st:=oB hK h hN (fun b T' e K'=>by cases b;exact hf T' ((by simpa using e)) K';exact ht T' ((by simpa using e)) K')
theorem xU{op:Op}{p:Prop} [Decidable p](hK:QH K T)(hd:Ur ops jj=some tt)(hb:K.lookup tt=some (.bool pol))(h:Us P G K op st (.bool (decide p)) st)(hN:Nat.ble (d+1) N=true)(hf: ∀T',¬p→QH ((d,.bool false)::K) T'→WR P G N ops rest R T' st)(ht: ∀T',p→QH ((d,.bool true)::K) T'→WR P G N ops rest R T' st):WR P G N ops (⟨some d,op,ty,pos,af,some (jj,pol)⟩::rest) R T st:=l4 hK hd hb h hN (fun b T' e K'=>by cases b;exact hf T' (of_decide_eq_false e) K';exact ht T' (of_decide_eq_true e) K')
theorem nt{op:Op}{p:Prop} [Decidable p](hK:QH K T)(hd:Ur ops jj=some tt)(hb:K.lookup tt=some (.bool pol))(h:Us P G K op st (.bool (!decide p)) st)(hN:Nat.ble (d+1) N=true)(hf: ∀T',p→QH ((d,.bool false)::K) T'→WR P G N ops rest R T' st)(ht: ∀T',¬p→QH ((d,.bool true)::K) T'→WR P G N ops rest R T' st):WR P G N ops (⟨some d,op,ty,pos,af,some (jj,pol)⟩::rest) R T st:=l4 hK hd hb h hN (fun b T' e K'=>by cases b;exact hf T' ((by simpa using e)) K';exact ht T' ((by simpa using e)) K')
theorem U5{x:Operand}{p:Prop} [Decidable p](hK:QH K T)(hx:QG G K x=some (.bool (decide p)))(hf: ∀T',¬p→QH ((d,.bool false)::K) T'→WR P G N ops rest R T' st)(ht: ∀T',p→QH ((d,.bool true)::K) T'→WR P G N ops rest R T' st)(hN:Nat.ble (d+1) N=true:=by exact rfl):WR P G N ops (⟨some d,.move x,ty,pos,af,none⟩::rest) R T st:=nu hK (Q8 hx) hN hf ht
theorem fM{x:Operand}{p:Prop} [Decidable p](hK:QH K T)(hx:QG G K x=some (.bool (!decide p)))(hf: ∀T',p→QH ((d,.bool false)::K) T'→WR P G N ops rest R T' st)(ht: ∀T',¬p→QH ((d,.bool true)::K) T'→WR P G N ops rest R T' st)(hN:Nat.ble (d+1) N=true:=by exact rfl):WR P G N ops (⟨some d,.move x,ty,pos,af,none⟩::rest) R T st:=nw hK (Q8 hx) hN hf ht
theorem dBp{op:Op}{p:Prop} [Decidable p](ho:ops[i]? =some (⟨some d,op,ty,pos,af,none⟩))(hK:QH K T)(h:Us P G K op st (.bool (decide p)) st)(hk:Nat.beq (Qz P op) 3=false)(hN:Nat.ble (d+1) N=true)(hf: ∀T',¬p→QH ((d,.bool false)::K) T'→WD P G N ops (w.map (UY ops)) R T' st sn)(ht: ∀T',p→QH ((d,.bool true)::K) T'→WD P G N ops (w.map (UY ops)) R T' st sn):WD P G N ops (((i,0)::w).map (UY ops)) R T st sn:=dB ho hK h hk hN (fun b T' e K'=>by cases b;exact hf T' (of_decide_eq_false e) K';exact ht T' (of_decide_eq_true e) K')
theorem dBn{op:Op}{p:Prop} [Decidable p](ho:ops[i]? =some (⟨some d,op,ty,pos,af,none⟩))(hK:QH K T)(h:Us P G K op st (.bool (!decide p)) st)(hk:Nat.beq (Qz P op) 3=false)(hN:Nat.ble (d+1) N=true)(hf: ∀T',p→QH ((d,.bool false)::K) T'→WD P G N ops (w.map (UY ops)) R T' st sn)(ht: ∀T',¬p→QH ((d,.bool true)::K) T'→WD P G N ops (w.map (UY ops)) R T' st sn):WD P G N ops (((i,0)::w).map (UY ops)) R T st sn:=dB ho hK h hk hN (fun b T' e K'=>by cases b;exact hf T' ((by simpa using e)) K';exact ht T' ((by simpa using e)) K')
def fx:Nat→List AV→List (Nat×AV)
 |_,[]=>[]
 |i,v::l=>(i,v)::fx (i+1) l
theorem Tw: ∀(l:List AV) (i:Nat),(∀t,i≤t→Ux T t=(l[t-i]?).getD (.tup []))→QH (fx i l) T
 |[],_,_=>.nil
 |v::l,i,h=>.cons (by have:=h i (Nat.le_refl _);rwa [Nat.sub_self]at this) (Tw l (i+1) fun t ht=>by
  have:=h t Qd;rw[show t-i=t-(i+1)+1 by omega]at this
  exact this)
theorem Jv{fn:Func}{c:Code}{N:Nat}{args:List AV}{Q:AV→St→Prop}(hf:P.funcs[f]? =some fn)(hN:fn.ntmps=N)
 (h: ∀T,QH (fx 0 args) T→W P G N c (fun x T st=>(x=.nor∨x=.ret)∧ ∃v,QS P fn.results.toList T st=some v∧Q v st) T st) (hs:G.s f=none:=by rfl) (hb:fn.body=some c:=by rfl) (hname:(fn.name== "runtime.NumGoroutine")=false:=by decide) (hl:args.length≤N:=by simp): ∃v st',Ev P G f args st v st'∧Q v st':=wF hs hf hb hN rfl hname hl fun T hT=>h T (Tw args 0 fun t _=>hT t)
theorem oI{x i:Operand}{t:TypeId}{k:IntKind}{v:AV}{z j:Nat}(hR:Jg st.h.get Y z ls ks)(hi:ls[j]? =some cs)(hK:QH K T)(he:JQ P t=some z)(ht:tk P t'=.one)(hx:QG G K x=some ks)(hy:QG G K i=some (.int k (j:Int)))(hv:cs[0]? =some v)(hn: ∀c m o T',QH ((d2,v)::(d,.ptr c m o)::K) T'→WR P G N ops rest R T' st)(hN:Nat.ble (d+1) N=true:=by exact rfl)(hN2:Nat.ble (d2+1) N=true:=by exact rfl):WR P G N ops (⟨some d,.indexAddr t x i,ty,pos,af,none⟩::⟨some d2,.load t' (.tmp d),ty2,pos2,af2,none⟩::rest) R T st:=by
 obtain⟨c,m,off,rfl,_,la,lo,_⟩:=hR.load (P:=P) hi;exact o1 hK (Qn he hx hy (List.getElem?_eq_some_iff.1 hi).1) hN fun T' K'=>o1 K' (Qi (show QG G (_::K) (.tmp d)=_ by show List.lookup d _=_;rw[List.lookup_cons];simp) (lo _ 0 _ ht hv)) hN2 fun T'' K''=>hn _ _ _ _ K''
theorem dI{x i:Operand}{t:TypeId}{k:IntKind}{v:AV}{z j:Nat}{i1 i2:Nat}{r:List (Nat×Nat)}(ho:ops[i1]? =some ⟨some d,.indexAddr t x i,ty,pos,af,none⟩)(ho2:ops[i2]? =some ⟨some d2,.load t' (.tmp d),ty2,pos2,af2,none⟩)(hR:Jg st.h.get Y z ls ks)(hi:ls[j]? =some cs)(hK:QH K T)(he:JQ P t=some z)(ht:tk P t'=.one)(hx:QG G K x=some ks)(hy:QG G K i=some (.int k (j:Int)))(hv:cs[0]? =some v)(hn: ∀c m o T',QH ((d2,v)::(d,.ptr c m o)::K) T'→WD P G N ops (r.map (UY ops)) R T' st sn)(hN:Nat.ble (d+1) N=true:=by exact rfl)(hN2:Nat.ble (d2+1) N=true:=by exact rfl):WD P G N ops (((i1,0)::(i2,0)::r).map (UY ops)) R T st sn:=by
 obtain⟨c,m,off,rfl,_,la,lo,_⟩:=hR.load (P:=P) hi;exact d1 ho hK (Qn he hx hy (List.getElem?_eq_some_iff.1 hi).1) rfl hN fun T' K'=>d1 ho2 K' (Qi (show QG G (_::K) (.tmp d)=_ by show List.lookup d _=_;rw[List.lookup_cons];simp) (lo _ 0 _ ht hv)) rfl hN2 fun T'' K''=>hn _ _ _ _ K''
theorem aA{x i:Operand}{t:TypeId}{k:IntKind}{z j:Nat}(hR:Jg st.h.get Y z ls ks)(hi:ls[j]? =some cs)(hK:QH K T)(he:JQ P t=some z)(ht:tk P t'=.agg z)(hx:QG G K x=some ks)(hy:QG G K i=some (.int k (j:Int)))(hn: ∀c m o T',QH ((d2,.agg cs)::(d,.ptr c m o)::K) T'→WR P G N ops rest R T' st)(hN:Nat.ble (d+1) N=true:=by exact rfl)(hN2:Nat.ble (d2+1) N=true:=by exact rfl):WR P G N ops (⟨some d,.indexAddr t x i,ty,pos,af,none⟩::⟨some d2,.load t' (.tmp d),ty2,pos2,af2,none⟩::rest) R T st:=by
 obtain⟨c,m,off,rfl,_,la,lo,_⟩:=hR.load (P:=P) hi;exact o1 hK (Qn he hx hy (List.getElem?_eq_some_iff.1 hi).1) hN fun T' K'=>o1 K' (Qi (show QG G (_::K) (.tmp d)=_ by show List.lookup d _=_;rw[List.lookup_cons];simp) (la _ ht)) hN2 fun T'' K''=>hn _ _ _ _ K''
theorem dIA{x i:Operand}{t:TypeId}{k:IntKind}{z j:Nat}{i1 i2:Nat}{r:List (Nat×Nat)}(ho:ops[i1]? =some ⟨some d,.indexAddr t x i,ty,pos,af,none⟩)(ho2:ops[i2]? =some ⟨some d2,.load t' (.tmp d),ty2,pos2,af2,none⟩)(hR:Jg st.h.get Y z ls ks)(hi:ls[j]? =some cs)(hK:QH K T)(he:JQ P t=some z)(ht:tk P t'=.agg z)(hx:QG G K x=some ks)(hy:QG G K i=some (.int k (j:Int)))(hn: ∀c m o T',QH ((d2,.agg cs)::(d,.ptr c m o)::K) T'→WD P G N ops (r.map (UY ops)) R T' st sn)(hN:Nat.ble (d+1) N=true:=by exact rfl)(hN2:Nat.ble (d2+1) N=true:=by exact rfl):WD P G N ops (((i1,0)::(i2,0)::r).map (UY ops)) R T st sn:=by
 obtain⟨c,m,off,rfl,_,la,lo,_⟩:=hR.load (P:=P) hi;exact d1 ho hK (Qn he hx hy (List.getElem?_eq_some_iff.1 hi).1) rfl hN fun T' K'=>d1 ho2 K' (Qi (show QG G (_::K) (.tmp d)=_ by show List.lookup d _=_;rw[List.lookup_cons];simp) (la _ ht)) rfl hN2 fun T'' K''=>hn _ _ _ _ K''
theorem UJ{a b:Code}{t:Bool}(hK:QH K T)(hg:QG G K g=some (.bool t))(ha:t=true→W P G N a Q T st)(hb:t=false→W P G N b Q T st):W P G N (.cond g a b) Q T st:=Lb (hK.QN hg) ha hb
theorem p1{op:Op}{v:AV}(hK:QH K T)(h:Us P G K op st v st1)(hn: ∀T',QH ((d,v)::K) T'→WR P G N ops rest R T' st1)(hN:Nat.ble (d+1) N=true:=by exact rfl):WR P G N ops (⟨some d,op,ty,pos,af,none⟩::rest) R T st:=o1 hK h hN hn
theorem pg{j t:Nat}{op:Op}{v:AV}(hK:QH K T)(ht:Ur ops j=some t)(hb:K.lookup t=some (.bool pol))(h:Us P G K op st v st1)(hn: ∀T',QH ((d,v)::K) T'→WR P G N ops rest R T' st1)(hN:Nat.ble (d+1) N=true:=by exact rfl):WR P G N ops (⟨some d,op,ty,pos,af,some (j,pol)⟩::rest) R T st:=og hK ht hb h hN hn
theorem q1{r:List (Nat×Nat)}{op:Op}{v:AV}(ho:ops[i]? =some ⟨some d,op,ty,pos,af,none⟩)(hK:QH K T)(h:Us P G K op st v st1)(hn: ∀T',QH ((d,v)::K) T'→WD P G N ops (r.map (UY ops)) R T' st1 sn)(hk:Nat.beq (Qz P op) 3=false:=by exact rfl)(hN:Nat.ble (d+1) N=true:=by exact rfl):WD P G N ops (((i,0)::r).map (UY ops)) R T st sn:=d1 ho hK h hk hN hn
theorem qA{r:List (Nat×Nat)}{op:Op}{v:AV}(ho:ops[i]? =some ⟨some d,op,ty,pos,af,none⟩)(hK:QH K T)(h:Us P G K op st v st1)(hn: ∀T',QH ((d,v)::K) T'→WD P G N ops (r.map (UY ops)) R T' st1 (st1::sn))(hk:Nat.beq (Qz P op) 3=true:=by exact rfl)(hN:Nat.ble (d+1) N=true:=by exact rfl):WD P G N ops (((i,0)::r).map (UY ops)) R T st sn:=dA ho hK h hk hN hn
end
end Go.Proofs.YtildagdnomiahaaGreatDoor
