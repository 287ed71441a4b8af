/-
  Straight runs of operations in one step.
-/
import Derived.Test.YtadjjadimlkkgaaGreatDoorKtTyg
namespace Go.Proofs.YtadjjadimlkkgaaGreatDoor
open Go Go.RowKit
set_option linter.unusedVariables false
set_option linter.unusedSectionVars false

class FO(P:Program)(t:TypeId)(f:Nat)(o:outParam Nat):Prop where
 h:JG P t f=some o
class T1(P:Program)(t:TypeId):Prop where
 h:tk P t=.one
class TA(P:Program)(t:TypeId)(n:outParam Nat):Prop where
 h:tk P t=.agg n
class ZE(P:Program)(t:TypeId)(l:outParam (List AV)):Prop where
 h:zeroOf P t=some l
instance :FO Tryz.prog 26 0 0:=⟨Vx⟩
instance :FO Tryz.prog 26 1 1:=⟨Xm⟩
instance :FO Tryz.prog 26 2 2:=⟨Xl⟩
instance :FO Tryz.prog 26 3 3:=⟨Xk⟩
instance :FO Tryz.prog 26 4 4:=⟨FD⟩
instance :FO Tryz.prog 28 0 0:=⟨Xj⟩
instance :FO Tryz.prog 28 1 1:=⟨YZ⟩
instance :FO Tryz.prog 28 2 2:=⟨Ej⟩
instance :FO Tryz.prog 69 0 0:=⟨El⟩
instance :FO Tryz.prog 69 1 1:=⟨Za⟩
instance :FO Tryz.prog 69 2 2:=⟨Ek⟩
instance :FO Tryz.prog 69 3 7:=⟨Nw⟩
instance :FO Tryz.prog 102 0 0:=⟨Z5⟩
instance :FO Tryz.prog 102 1 1:=⟨Vy⟩
instance :FO Tryz.prog 102 2 2:=⟨FE⟩
instance :FO Tryz.prog 75 0 0:=⟨WA⟩
instance :FO Tryz.prog 75 1 1:=⟨XZ⟩
instance :FO Tryz.prog 75 2 2:=⟨W9⟩
instance :FO Tryz.prog 75 3 3:=⟨JF⟩
instance :FO Tryz.prog 118 0 0:=⟨Vi⟩
instance :FO Tryz.prog 118 1 1:=⟨J9⟩
instance :FO Tryz.prog 118 2 2:=⟨ZA⟩
instance :FO Tryz.prog 118 3 3:=⟨Jq⟩
instance :FO Tryz.prog 66 0 0:=⟨YE⟩
instance :FO Tryz.prog 66 1 1:=⟨YD⟩
instance :FO Tryz.prog 66 2 2:=⟨Ye⟩
instance :FO Tryz.prog 66 3 3:=⟨Yd⟩
instance :FO Tryz.prog 154 0 0:=⟨Vw⟩
instance :FO Tryz.prog 154 1 1:=⟨FC⟩
instance :FO Tryz.prog 81 0 0:=⟨X1⟩
instance :T1 Tryz.prog 3:=⟨QA⟩
instance :T1 Tryz.prog 9:=⟨Ji⟩
instance :T1 Tryz.prog 21:=⟨Hu⟩
instance :T1 Tryz.prog 24:=⟨F4⟩
instance :TA Tryz.prog 26 5:=⟨Q8⟩
instance :T1 Tryz.prog 22:=⟨Ut⟩
instance :T1 Tryz.prog 23:=⟨U6⟩
instance :TA Tryz.prog 28 7:=⟨Y4⟩
instance :TA Tryz.prog 69 8:=⟨X8⟩
instance :TA Tryz.prog 102 3:=⟨WT⟩
instance :T1 Tryz.prog 61:=⟨XK⟩
instance :TA Tryz.prog 75 4:=⟨UB⟩
instance :T1 Tryz.prog 116:=⟨U5⟩
instance :TA Tryz.prog 164 2:=⟨I0⟩
instance :ZE Tryz.prog 3 [.int .i64 0]:=⟨jm⟩
instance :ZE Tryz.prog 5 [.int .u8 0]:=⟨Ar⟩
instance :ZE Tryz.prog 9 [.str []]:=⟨Wi⟩
instance :ZE Tryz.prog 26 [.str [],.str [],.int .i64 0,.int .i64 0,.nils]:=⟨QR⟩
instance :ZE Tryz.prog 28 [.nils,.nils,.str [],.str [],.int .i64 0,.int .i64 0,.nils]:=⟨IT⟩
instance :ZE Tryz.prog 69 [.str [],.nils,.str [],.str [],.int .i64 0,.int .i64 0,.nils,.int .i64 0]:=⟨YO⟩
instance :ZE Tryz.prog 102 [.str [],.int .i64 0,.int .i64 0]:=⟨Up⟩
instance :ZE Tryz.prog 75 [.int .i64 0,.str [],.int .i64 0,.int .i64 0]:=⟨Zq⟩
instance :ZE Tryz.prog 118 [.str [],.nils,.int .i64 0,.int .i64 0]:=⟨VS⟩
instance :ZE Tryz.prog 66 [.nils,.int .i64 0,.int .i64 0,.int .i64 0]:=⟨VR⟩
instance :ZE Tryz.prog 81 [.nils]:=⟨Et⟩
instance :ZE Tryz.prog 164 [.int .i64 0,.int .i64 0]:=⟨Wj⟩
class SZ(P:Program)(t:TypeId)(n:outParam Nat):Prop where
 h:Xh P t=some n
instance :SZ Tryz.prog 3 1:=⟨Cj⟩
instance :SZ Tryz.prog 9 1:=⟨NA⟩
instance :SZ Tryz.prog 24 1:=⟨Nr⟩
instance :SZ Tryz.prog 26 5:=⟨QI⟩
instance :SZ Tryz.prog 22 1:=⟨Vu⟩
instance :SZ Tryz.prog 23 1:=⟨Vt⟩
instance :SZ Tryz.prog 28 7:=⟨Y5⟩
instance :SZ Tryz.prog 69 8:=⟨V4⟩
instance :SZ Tryz.prog 102 3:=⟨Gw⟩
instance :SZ Tryz.prog 75 4:=⟨EM⟩
instance :SZ Tryz.prog 116 1:=⟨F6⟩
instance :SZ Tryz.prog 164 2:=⟨Ph⟩
def SG(j:Nat)(q:St→Prop)(h0:Hp)(n0:Nat)(X:List Nat)(K:List (Nat×AV))(M:List (Nat×Nat×List AV))(F:Tr AV→St→Prop):Prop:= ∀T st,Jk K T→q st→Mem h0 n0 X st M→F T st
def To(g g':Prop):Prop:=g'→g
section
variable {j:Nat} {q:St→Prop} {P:Program} {G:Env} {N:Nat} {h0:Hp} {n0:Nat} {X:List Nat} {K:List (Nat×AV)} {M:List (Nat×Nat×List AV)} {g':Prop} {ops rest:List Oper} {R:Tr AV→St→Prop} {Q:Ex→Tr AV→St→Prop} {d:Nat} {ty:TypeId} {pos:String} {af:Array Edge}
theorem RO{k:Tr AV→St→Prop}(h:To (SG j q h0 n0 X K M k) g'):To (SG j q h0 n0 X K M (N8 k Q .nor)) g':=h
theorem qK{id:Nat}(h:To (SG j q h0 n0 X K M (Q .nor)) g'):To (SG j q h0 n0 X K M (CR id Q .nor)) g':=h
theorem qv{a b:Code}(h:To (SG j q h0 n0 X K M (W P G N a (N8 (W P G N b Q) Q))) g'):To (SG j q h0 n0 X K M (W P G N (.seq a b) Q)) g':=fun h' T st hK hq hM=>Qw (h h' T st hK hq hM)
theorem Dm{id:Nat}{c:Code}(h:To (SG j q h0 n0 X K M (W P G N c (CR id Q))) g'):To (SG j q h0 n0 X K M (W P G N (.block id c) Q)) g':=fun h' T st hK hq hM=>UN (h h' T st hK hq hM)
theorem RP(h:To (SG j q h0 n0 X K M (Q .nor)) g'):To (SG j q h0 n0 X K M (W P G N .skip Q)) g':=fun h' T st hK hq hM=>QO (h h' T st hK hq hM)
theorem Dl{l:Nat}(h:To (SG j q h0 n0 X K M (Q .nor)) g'):To (SG j q h0 n0 X K M (W P G N (.label l) Q)) g':=fun h' T st hK hq hM=>Mr (h h' T st hK hq hM)
theorem Gu{id:Nat}{l:List Oper}(h:To (SG j q h0 n0 X K M (WR P G N l l (Q .nor))) g'):To (SG j q h0 n0 X K M (W P G N (.region id l.toArray false) Q)) g':=fun h' T st hK hq hM=>Qi (h h' T st hK hq hM)
theorem qx(h:To (SG j q h0 n0 X K M R) g'):To (SG j q h0 n0 X K M (WR P G N ops [] R)) g':=fun h' T st hK hq hM=>Q5 (h h' T st hK hq hM)
theorem Av{op:Op}{v:AV}(hN:Nat.ble (d+1) N=true)(ho: ∀st,Mem h0 n0 X st M→ZV P G K op st v st)(h:To (SG j q h0 n0 X ((d,v)::K) M (WR P G N ops rest R)) g'):To (SG (j+1) q h0 n0 X K M (WR P G N ops (⟨some d,op,ty,pos,af,none⟩::rest) R)) g':=
 fun h' T st hK hq hM=>o1 hK (ho st hM) hN fun T' hK'=>h h' T' st hK' hq hM
theorem Aw{jj tt:Nat}{pol:Bool}{op:Op}{v:AV}{g1:Prop}(hd:UL ops jj=some tt)(hb:K.lookup tt=some (.bool pol))(hN:Nat.ble (d+1) N=true)(ho: ∀st,Mem h0 n0 X st M→ZV P G K op st v st)(h:To (SG j q h0 n0 X ((d,v)::K) M (WR P G N ops rest R)) g1):To (SG (j+1) q h0 n0 X K M (WR P G N ops (⟨some d,op,ty,pos,af,some (jj,pol)⟩::rest) R)) g1:=
 fun h' T st hK hq hM=>og hK hd hb (ho st hM) hN fun T' hK'=>h h' T' st hK' hq hM
theorem uj{jj tt:Nat}{b pol:Bool}{op:Op}{g1:Prop}(hh:UL ops jj=some tt∧K.lookup tt=some (.bool b)∧(b==pol)=false∧Nat.ble (d+1) N=true)(h:To (SG j q h0 n0 X ((d,.tup [])::K) M (WR P G N ops rest R)) g1):To (SG (j+1) q h0 n0 X K M (WR P G N ops (⟨some d,op,ty,pos,af,some (jj,pol)⟩::rest) R)) g1:=
 fun h' T st hK hq hM=>gn hK hh.1 hh.2.1 hh.2.2.1 hh.2.2.2 fun T' hK'=>h h' T' st hK' hq hM
theorem qE{jj tt:Nat}{pol:Bool}{op:Op}{g1:Prop}(hh:UL ops jj=some tt∧K.lookup tt=some (.tup [])∧Nat.ble (d+1) N=true)(h:To (SG j q h0 n0 X ((d,.tup [])::K) M (WR P G N ops rest R)) g1):To (SG (j+1) q h0 n0 X K M (WR P G N ops (⟨some d,op,ty,pos,af,some (jj,pol)⟩::rest) R)) g1:=
 fun h' T st hK hq hM=>yp hK hh.1 hh.2.1 hh.2.2 fun T' hK'=>h h' T' st hK' hq hM
theorem RS{x:Operand}{v:AV}{g1:Prop}(hh:Uf G K x=some v∧Nat.ble (d+1) N=true)(h:To (SG j q h0 n0 X ((d,v)::K) M (WR P G N ops rest R)) g1):To (SG (j+1) q h0 n0 X K M (WR P G N ops (⟨some d,.move x,ty,pos,af,none⟩::rest) R)) g1:=Av hh.2 (fun st hM=>Qb hh.1) h
theorem Ts{jj tt:Nat}{pol:Bool}{x:Operand}{v:AV}{g1:Prop}(hh:Uf G K x=some v∧UL ops jj=some tt∧K.lookup tt=some (.bool pol)∧Nat.ble (d+1) N=true)(h:To (SG j q h0 n0 X ((d,v)::K) M (WR P G N ops rest R)) g1):To (SG (j+1) q h0 n0 X K M (WR P G N ops (⟨some d,.move x,ty,pos,af,some (jj,pol)⟩::rest) R)) g1:=Aw hh.2.1 hh.2.2.1 hh.2.2.2 (fun st hM=>Qb hh.1) h
theorem Gv{x:Operand}{v:AV}{g1:Prop}(hh:Uf G K x=some v∧Nat.ble (d+1) N=true)(h:To (SG j q h0 n0 X ((d,v)::K) M (WR P G N ops rest R)) g1):To (SG (j+1) q h0 n0 X K M (WR P G N ops (⟨some d,.assign x,ty,pos,af,none⟩::rest) R)) g1:=Av hh.2 (fun st hM=>Qu hh.1) h
theorem Bh{jj tt:Nat}{pol:Bool}{x:Operand}{v:AV}{g1:Prop}(hh:Uf G K x=some v∧UL ops jj=some tt∧K.lookup tt=some (.bool pol)∧Nat.ble (d+1) N=true)(h:To (SG j q h0 n0 X ((d,v)::K) M (WR P G N ops rest R)) g1):To (SG (j+1) q h0 n0 X K M (WR P G N ops (⟨some d,.assign x,ty,pos,af,some (jj,pol)⟩::rest) R)) g1:=Aw hh.2.1 hh.2.2.1 hh.2.2.2 (fun st hM=>Qu hh.1) h
theorem qG{t:TypeId}{x:Operand}{f c m off o:Nat} [ho:FO P t f o]{g1:Prop}(hh:Uf G K x=some (.ptr c m off)∧Nat.ble (d+1) N=true)(h:To (SG j q h0 n0 X ((d,.ptr c m (off+o))::K) M (WR P G N ops rest R)) g1):To (SG (j+1) q h0 n0 X K M (WR P G N ops (⟨some d,.fieldAddr t x f,ty,pos,af,none⟩::rest) R)) g1:=Av hh.2 (fun st hM=>Qf ho.h hh.1) h
theorem qZ{jj tt:Nat}{pol:Bool}{t:TypeId}{x:Operand}{f c m off o:Nat} [ho:FO P t f o]{g1:Prop}(hh:Uf G K x=some (.ptr c m off)∧UL ops jj=some tt∧K.lookup tt=some (.bool pol)∧Nat.ble (d+1) N=true)(h:To (SG j q h0 n0 X ((d,.ptr c m (off+o))::K) M (WR P G N ops rest R)) g1):To (SG (j+1) q h0 n0 X K M (WR P G N ops (⟨some d,.fieldAddr t x f,ty,pos,af,some (jj,pol)⟩::rest) R)) g1:=Aw hh.2.1 hh.2.2.1 hh.2.2.2 (fun st hM=>Qf ho.h hh.1) h
theorem RR{x:Operand}{c m off:Nat}{g1:Prop}(hh:Uf G K x=some (.ptr c m off)∧Nat.ble (d+1) N=true)(h:To (SG j q h0 n0 X ((d,.ptr c m off)::K) M (WR P G N ops rest R)) g1):To (SG (j+1) q h0 n0 X K M (WR P G N ops (⟨some d,.nilCheck x,ty,pos,af,none⟩::rest) R)) g1:=Av hh.2 (fun st hM=>JY hh.1 rfl) h
theorem Tq{jj tt:Nat}{pol:Bool}{x:Operand}{c m off:Nat}{g1:Prop}(hh:Uf G K x=some (.ptr c m off)∧UL ops jj=some tt∧K.lookup tt=some (.bool pol)∧Nat.ble (d+1) N=true)(h:To (SG j q h0 n0 X ((d,.ptr c m off)::K) M (WR P G N ops rest R)) g1):To (SG (j+1) q h0 n0 X K M (WR P G N ops (⟨some d,.nilCheck x,ty,pos,af,some (jj,pol)⟩::rest) R)) g1:=Aw hh.2.1 hh.2.2.1 hh.2.2.2 (fun st hM=>JY hh.1 rfl) h
theorem qB{t yt:TypeId}{x y:Operand}{k:IntKind}{a b:Int}{g1:Prop}(hh:Uf G K x=some (.int k a)∧Uf G K y=some (.int k b)∧Nat.ble (d+1) N=true)(h:To (SG j q h0 n0 X ((d,.bool (decide (a<b)))::K) M (WR P G N ops rest R)) g1):To (SG (j+1) q h0 n0 X K M (WR P G N ops (⟨some d,.binOp .lss t x y yt,ty,pos,af,none⟩::rest) R)) g1:=Av hh.2.2 (fun st hM=>I9 hh.1 hh.2.1) h
theorem qV{jj tt:Nat}{pol:Bool}{t yt:TypeId}{x y:Operand}{k:IntKind}{a b:Int}{g1:Prop}(hh:Uf G K x=some (.int k a)∧Uf G K y=some (.int k b)∧UL ops jj=some tt∧K.lookup tt=some (.bool pol)∧Nat.ble (d+1) N=true)(h:To (SG j q h0 n0 X ((d,.bool (decide (a<b)))::K) M (WR P G N ops rest R)) g1):To (SG (j+1) q h0 n0 X K M (WR P G N ops (⟨some d,.binOp .lss t x y yt,ty,pos,af,some (jj,pol)⟩::rest) R)) g1:=Aw hh.2.2.1 hh.2.2.2.1 hh.2.2.2.2 (fun st hM=>I9 hh.1 hh.2.1) h
theorem qD{t yt:TypeId}{x y:Operand}{k:IntKind}{a b:Int}{g1:Prop}(hh:Uf G K x=some (.int k a)∧Uf G K y=some (.int k b)∧Nat.ble (d+1) N=true)(h:To (SG j q h0 n0 X ((d,.bool (decide (b<a)))::K) M (WR P G N ops rest R)) g1):To (SG (j+1) q h0 n0 X K M (WR P G N ops (⟨some d,.binOp .gtr t x y yt,ty,pos,af,none⟩::rest) R)) g1:=Av hh.2.2 (fun st hM=>Lp hh.1 hh.2.1) h
theorem qX{jj tt:Nat}{pol:Bool}{t yt:TypeId}{x y:Operand}{k:IntKind}{a b:Int}{g1:Prop}(hh:Uf G K x=some (.int k a)∧Uf G K y=some (.int k b)∧UL ops jj=some tt∧K.lookup tt=some (.bool pol)∧Nat.ble (d+1) N=true)(h:To (SG j q h0 n0 X ((d,.bool (decide (b<a)))::K) M (WR P G N ops rest R)) g1):To (SG (j+1) q h0 n0 X K M (WR P G N ops (⟨some d,.binOp .gtr t x y yt,ty,pos,af,some (jj,pol)⟩::rest) R)) g1:=Aw hh.2.2.1 hh.2.2.2.1 hh.2.2.2.2 (fun st hM=>Lp hh.1 hh.2.1) h
theorem qC{t yt:TypeId}{x y:Operand}{k:IntKind}{a b:Int}{g1:Prop}(hh:Uf G K x=some (.int k a)∧Uf G K y=some (.int k b)∧Nat.ble (d+1) N=true)(h:To (SG j q h0 n0 X ((d,.bool (decide (a≤b)))::K) M (WR P G N ops rest R)) g1):To (SG (j+1) q h0 n0 X K M (WR P G N ops (⟨some d,.binOp .leq t x y yt,ty,pos,af,none⟩::rest) R)) g1:=Av hh.2.2 (fun st hM=>OH hh.1 hh.2.1) h
theorem qW{jj tt:Nat}{pol:Bool}{t yt:TypeId}{x y:Operand}{k:IntKind}{a b:Int}{g1:Prop}(hh:Uf G K x=some (.int k a)∧Uf G K y=some (.int k b)∧UL ops jj=some tt∧K.lookup tt=some (.bool pol)∧Nat.ble (d+1) N=true)(h:To (SG j q h0 n0 X ((d,.bool (decide (a≤b)))::K) M (WR P G N ops rest R)) g1):To (SG (j+1) q h0 n0 X K M (WR P G N ops (⟨some d,.binOp .leq t x y yt,ty,pos,af,some (jj,pol)⟩::rest) R)) g1:=Aw hh.2.2.1 hh.2.2.2.1 hh.2.2.2.2 (fun st hM=>OH hh.1 hh.2.1) h
theorem qF{t yt:TypeId}{x y:Operand}{k:IntKind}{a b:Int}{g1:Prop}(hh:Uf G K x=some (.int k a)∧Uf G K y=some (.int k b)∧Nat.ble (d+1) N=true)(h:To (SG j q h0 n0 X ((d,.bool (decide (b≤a)))::K) M (WR P G N ops rest R)) g1):To (SG (j+1) q h0 n0 X K M (WR P G N ops (⟨some d,.binOp .geq t x y yt,ty,pos,af,none⟩::rest) R)) g1:=Av hh.2.2 (fun st hM=>AD hh.1 hh.2.1) h
theorem qY{jj tt:Nat}{pol:Bool}{t yt:TypeId}{x y:Operand}{k:IntKind}{a b:Int}{g1:Prop}(hh:Uf G K x=some (.int k a)∧Uf G K y=some (.int k b)∧UL ops jj=some tt∧K.lookup tt=some (.bool pol)∧Nat.ble (d+1) N=true)(h:To (SG j q h0 n0 X ((d,.bool (decide (b≤a)))::K) M (WR P G N ops rest R)) g1):To (SG (j+1) q h0 n0 X K M (WR P G N ops (⟨some d,.binOp .geq t x y yt,ty,pos,af,some (jj,pol)⟩::rest) R)) g1:=Aw hh.2.2.1 hh.2.2.2.1 hh.2.2.2.2 (fun st hM=>AD hh.1 hh.2.1) h
theorem qJ{t yt:TypeId}{x y:Operand}{k:IntKind}{a b:Int}{g1:Prop}(hh:Uf G K x=some (.int k a)∧Uf G K y=some (.int k b)∧Nat.ble (d+1) N=true)(h:To (SG j q h0 n0 X ((d,.bool (decide (a=b)))::K) M (WR P G N ops rest R)) g1):To (SG (j+1) q h0 n0 X K M (WR P G N ops (⟨some d,.binOp .eql t x y yt,ty,pos,af,none⟩::rest) R)) g1:=Av hh.2.2 (fun st hM=>AE hh.1 hh.2.1) h
theorem jd{jj tt:Nat}{pol:Bool}{t yt:TypeId}{x y:Operand}{k:IntKind}{a b:Int}{g1:Prop}(hh:Uf G K x=some (.int k a)∧Uf G K y=some (.int k b)∧UL ops jj=some tt∧K.lookup tt=some (.bool pol)∧Nat.ble (d+1) N=true)(h:To (SG j q h0 n0 X ((d,.bool (decide (a=b)))::K) M (WR P G N ops rest R)) g1):To (SG (j+1) q h0 n0 X K M (WR P G N ops (⟨some d,.binOp .eql t x y yt,ty,pos,af,some (jj,pol)⟩::rest) R)) g1:=Aw hh.2.2.1 hh.2.2.2.1 hh.2.2.2.2 (fun st hM=>AE hh.1 hh.2.1) h
theorem qA{t yt:TypeId}{x y:Operand}{k:IntKind}{a b:Int}{g1:Prop}(hh:Uf G K x=some (.int k a)∧Uf G K y=some (.int k b)∧Nat.ble (d+1) N=true)(h:To (SG j q h0 n0 X ((d,.bool (!decide (a=b)))::K) M (WR P G N ops rest R)) g1):To (SG (j+1) q h0 n0 X K M (WR P G N ops (⟨some d,.binOp .neq t x y yt,ty,pos,af,none⟩::rest) R)) g1:=Av hh.2.2 (fun st hM=>Cx hh.1 hh.2.1) h
theorem qU{jj tt:Nat}{pol:Bool}{t yt:TypeId}{x y:Operand}{k:IntKind}{a b:Int}{g1:Prop}(hh:Uf G K x=some (.int k a)∧Uf G K y=some (.int k b)∧UL ops jj=some tt∧K.lookup tt=some (.bool pol)∧Nat.ble (d+1) N=true)(h:To (SG j q h0 n0 X ((d,.bool (!decide (a=b)))::K) M (WR P G N ops rest R)) g1):To (SG (j+1) q h0 n0 X K M (WR P G N ops (⟨some d,.binOp .neq t x y yt,ty,pos,af,some (jj,pol)⟩::rest) R)) g1:=Aw hh.2.2.1 hh.2.2.2.1 hh.2.2.2.2 (fun st hM=>Cx hh.1 hh.2.1) h
theorem qI{t yt:TypeId}{x y:Operand}{a b:List Nat}{g1:Prop}(hh:Uf G K x=some (.str a)∧Uf G K y=some (.str b)∧Nat.ble (d+1) N=true)(h:To (SG j q h0 n0 X ((d,.bool (decide (a=b)))::K) M (WR P G N ops rest R)) g1):To (SG (j+1) q h0 n0 X K M (WR P G N ops (⟨some d,.binOp .eql t x y yt,ty,pos,af,none⟩::rest) R)) g1:=Av hh.2.2 (fun st hM=>QD hh.1 hh.2.1) h
theorem jb{jj tt:Nat}{pol:Bool}{t yt:TypeId}{x y:Operand}{a b:List Nat}{g1:Prop}(hh:Uf G K x=some (.str a)∧Uf G K y=some (.str b)∧UL ops jj=some tt∧K.lookup tt=some (.bool pol)∧Nat.ble (d+1) N=true)(h:To (SG j q h0 n0 X ((d,.bool (decide (a=b)))::K) M (WR P G N ops rest R)) g1):To (SG (j+1) q h0 n0 X K M (WR P G N ops (⟨some d,.binOp .eql t x y yt,ty,pos,af,some (jj,pol)⟩::rest) R)) g1:=Aw hh.2.2.1 hh.2.2.2.1 hh.2.2.2.2 (fun st hM=>QD hh.1 hh.2.1) h
theorem qy{t yt:TypeId}{x y:Operand}{a b:List Nat}{g1:Prop}(hh:Uf G K x=some (.str a)∧Uf G K y=some (.str b)∧Nat.ble (d+1) N=true)(h:To (SG j q h0 n0 X ((d,.bool (!decide (a=b)))::K) M (WR P G N ops rest R)) g1):To (SG (j+1) q h0 n0 X K M (WR P G N ops (⟨some d,.binOp .neq t x y yt,ty,pos,af,none⟩::rest) R)) g1:=Av hh.2.2 (fun st hM=>VI hh.1 hh.2.1) h
theorem qT{jj tt:Nat}{pol:Bool}{t yt:TypeId}{x y:Operand}{a b:List Nat}{g1:Prop}(hh:Uf G K x=some (.str a)∧Uf G K y=some (.str b)∧UL ops jj=some tt∧K.lookup tt=some (.bool pol)∧Nat.ble (d+1) N=true)(h:To (SG j q h0 n0 X ((d,.bool (!decide (a=b)))::K) M (WR P G N ops rest R)) g1):To (SG (j+1) q h0 n0 X K M (WR P G N ops (⟨some d,.binOp .neq t x y yt,ty,pos,af,some (jj,pol)⟩::rest) R)) g1:=Aw hh.2.2.1 hh.2.2.2.1 hh.2.2.2.2 (fun st hM=>VI hh.1 hh.2.1) h
theorem qw{t:TypeId}{x:Operand}{b:Bool}{g1:Prop}(hh:Uf G K x=some (.bool b)∧Nat.ble (d+1) N=true)(h:To (SG j q h0 n0 X ((d,.bool (!b))::K) M (WR P G N ops rest R)) g1):To (SG (j+1) q h0 n0 X K M (WR P G N ops (⟨some d,.unOp .not t x,ty,pos,af,none⟩::rest) R)) g1:=Av hh.2 (fun st hM=>Lo hh.1) h
theorem qS{jj tt:Nat}{pol:Bool}{t:TypeId}{x:Operand}{b:Bool}{g1:Prop}(hh:Uf G K x=some (.bool b)∧UL ops jj=some tt∧K.lookup tt=some (.bool pol)∧Nat.ble (d+1) N=true)(h:To (SG j q h0 n0 X ((d,.bool (!b))::K) M (WR P G N ops rest R)) g1):To (SG (j+1) q h0 n0 X K M (WR P G N ops (⟨some d,.unOp .not t x,ty,pos,af,some (jj,pol)⟩::rest) R)) g1:=Aw hh.2.1 hh.2.2.1 hh.2.2.2 (fun st hM=>Lo hh.1) h
theorem RQ{x a b:Operand}{t:Bool}{u v:AV}{g1:Prop}(hh:Uf G K x=some (.bool t)∧Uf G K a=some u∧Uf G K b=some v∧Nat.ble (d+1) N=true)(h:To (SG j q h0 n0 X ((d,Qo t u v)::K) M (WR P G N ops rest R)) g1):To (SG (j+1) q h0 n0 X K M (WR P G N ops (⟨some d,.pick x a b,ty,pos,af,none⟩::rest) R)) g1:=Av hh.2.2.2 (fun st hM=>UH hh.1 hh.2.1 hh.2.2.1) h
theorem Tp{jj tt:Nat}{pol:Bool}{x a b:Operand}{t:Bool}{u v:AV}{g1:Prop}(hh:Uf G K x=some (.bool t)∧Uf G K a=some u∧Uf G K b=some v∧UL ops jj=some tt∧K.lookup tt=some (.bool pol)∧Nat.ble (d+1) N=true)(h:To (SG j q h0 n0 X ((d,Qo t u v)::K) M (WR P G N ops rest R)) g1):To (SG (j+1) q h0 n0 X K M (WR P G N ops (⟨some d,.pick x a b,ty,pos,af,some (jj,pol)⟩::rest) R)) g1:=Aw hh.2.2.2.1 hh.2.2.2.2.1 hh.2.2.2.2.2 (fun st hM=>UH hh.1 hh.2.1 hh.2.2.1) h
theorem qH{x:Operand}{i:Nat}{l:List AV}{v:AV}{g1:Prop}(hh:Uf G K x=some (.tup l)∧nth l i=some v∧Nat.ble (d+1) N=true)(h:To (SG j q h0 n0 X ((d,v)::K) M (WR P G N ops rest R)) g1):To (SG (j+1) q h0 n0 X K M (WR P G N ops (⟨some d,.extract x i,ty,pos,af,none⟩::rest) R)) g1:=Av hh.2.2 (fun st hM=>EV hh.1 hh.2.1) h
theorem ja{jj tt:Nat}{pol:Bool}{x:Operand}{i:Nat}{l:List AV}{v:AV}{g1:Prop}(hh:Uf G K x=some (.tup l)∧nth l i=some v∧UL ops jj=some tt∧K.lookup tt=some (.bool pol)∧Nat.ble (d+1) N=true)(h:To (SG j q h0 n0 X ((d,v)::K) M (WR P G N ops rest R)) g1):To (SG (j+1) q h0 n0 X K M (WR P G N ops (⟨some d,.extract x i,ty,pos,af,some (jj,pol)⟩::rest) R)) g1:=Aw hh.2.2.1 hh.2.2.2.1 hh.2.2.2.2 (fun st hM=>EV hh.1 hh.2.1) h
theorem XM{t:TypeId}{x:Operand}{v:AV} [ht:T1 P t](k:Nat){c m off:Nat}{l:List AV}{g1:Prop}(hh:Uf G K x=some (.ptr c m off)∧M[k]? =some (c,m,l)∧nth l off=some v∧Nat.ble (d+1) N=true)(h:To (SG j q h0 n0 X ((d,v)::K) M (WR P G N ops rest R)) g1):To (SG (j+1) q h0 n0 X K M (WR P G N ops (⟨some d,.load t x,ty,pos,af,none⟩::rest) R)) g1:=Av hh.2.2.2 (fun st hM=>Qq hh.1 (hM.load hh.2.1 (Ql ht.h hh.2.2.1))) h
theorem XY{jj tt:Nat}{pol:Bool}{t:TypeId}{x:Operand}{v:AV} [ht:T1 P t](k:Nat){c m off:Nat}{l:List AV}{g1:Prop}(hh:Uf G K x=some (.ptr c m off)∧M[k]? =some (c,m,l)∧nth l off=some v∧UL ops jj=some tt∧K.lookup tt=some (.bool pol)∧Nat.ble (d+1) N=true)(h:To (SG j q h0 n0 X ((d,v)::K) M (WR P G N ops rest R)) g1):To (SG (j+1) q h0 n0 X K M (WR P G N ops (⟨some d,.load t x,ty,pos,af,some (jj,pol)⟩::rest) R)) g1:=Aw hh.2.2.2.1 hh.2.2.2.2.1 hh.2.2.2.2.2 (fun st hM=>Qq hh.1 (hM.load hh.2.1 (Ql ht.h hh.2.2.1))) h
theorem ZC{t:TypeId}{x:Operand}{n:Nat}{r:List AV} [ht:TA P t n](k:Nat){c m off:Nat}{l:List AV}{g1:Prop}(hh:Uf G K x=some (.ptr c m off)∧M[k]? =some (c,m,l)∧Aj n (EA off l) (fun r=>some (AV.agg r))=some (.agg r)∧Nat.ble (d+1) N=true)(h:To (SG j q h0 n0 X ((d,.agg r)::K) M (WR P G N ops rest R)) g1):To (SG (j+1) q h0 n0 X K M (WR P G N ops (⟨some d,.load t x,ty,pos,af,none⟩::rest) R)) g1:=Av hh.2.2.2 (fun st hM=>Qq hh.1 (hM.load hh.2.1 (Ja ht.h hh.2.2.1))) h
theorem ZF{jj tt:Nat}{pol:Bool}{t:TypeId}{x:Operand}{n:Nat}{r:List AV} [ht:TA P t n](k:Nat){c m off:Nat}{l:List AV}{g1:Prop}(hh:Uf G K x=some (.ptr c m off)∧M[k]? =some (c,m,l)∧Aj n (EA off l) (fun r=>some (AV.agg r))=some (.agg r)∧UL ops jj=some tt∧K.lookup tt=some (.bool pol)∧Nat.ble (d+1) N=true)(h:To (SG j q h0 n0 X ((d,.agg r)::K) M (WR P G N ops rest R)) g1):To (SG (j+1) q h0 n0 X K M (WR P G N ops (⟨some d,.load t x,ty,pos,af,some (jj,pol)⟩::rest) R)) g1:=Aw hh.2.2.2.1 hh.2.2.2.2.1 hh.2.2.2.2.2 (fun st hM=>Qq hh.1 (hM.load hh.2.1 (Ja ht.h hh.2.2.1))) h
theorem EL{t:TypeId}{x y:Operand}{w:AV}{n:Nat} [hz:SZ P t n](k:Nat){c m off:Nat}{l l':List AV}{g1:Prop}(hh:Uf G K x=some (.ptr c m off)∧Uf G K y=some w∧M[k]? =some (c,m,l)∧(Ua w).length=n∧Eo JD (Ua w)=true∧Xi (Ua w) off l=some l')(h:To (SG j (fun _=>True) h0 n0 X K (M.set k (c,m,l')) (WR P G N ops rest R)) g1):To (SG (j+1) (fun _=>True) h0 n0 X K M (WR P G N ops (⟨none,.store t x y,ty,pos,af,none⟩::rest) R)) g1:=
 fun h' T st hK _ hM=>J5 (k:=k) hK hM hh.1 hh.2.1 hh.2.2.1 hz.h hh.2.2.2.1 hh.2.2.2.2.1 hh.2.2.2.2.2 fun st' hM'=>h h' T st' hK trivial hM'
theorem Mw{t:TypeId}{l:List AV}{g:Nat→Prop} [hz:ZE P t l](hN:Nat.ble (d+1) N=true)(h: ∀c,To (SG j (fun _=>True) h0 n0 X ((d,.ptr c 0 0)::K) ((c,0,l)::M) (WR P G N ops rest R)) (g c)):To (SG (j+1) (fun _=>True) h0 n0 X K M (WR P G N ops (⟨some d,.alloc t,ty,pos,af,none⟩::rest) R)) (∀c,g c):=
 fun h' T st hK _ hM=>Yb hK hM hz.h (Nat.le_of_ble_eq_true hN) fun c T' st' hK' hM'=>h c (h' c) T' st' hK' trivial hM'
theorem jt{g:Prop}:To g g:=id
theorem Mv{st0:St}{F:Tr AV→St→Prop}:To (SG j (fun s=>s=st0) h0 n0 X K M F) (∀T,Jk K T→F T st0):=fun h T st hK hq hM=>hq▸h T hK
theorem au(j:Nat){F:Tr AV→St→Prop}{T:Tr AV}{st:St}(hK:Jk K T)(hM:Mem h0 n0 X st M)(hn:g')(h:To (SG j (fun _=>True) h0 n0 X K M F) g':=by
 repeat' first
  |with_reducible refine' RO ?_
  |with_reducible refine' qK ?_
  |with_reducible refine' qv ?_
  |with_reducible refine' qx ?_
  |with_reducible refine' Dm ?_
  |with_reducible refine' RP ?_
  |with_reducible refine' Dl ?_
  |with_reducible refine' Gu ?_
  |((with_reducible refine' RS ?_ ?_);any_goals exact⟨rfl,rfl⟩)
  |((with_reducible refine' Ts ?_ ?_);any_goals exact⟨rfl,rfl,rfl,rfl⟩)
  |((with_reducible refine' Gv ?_ ?_);any_goals exact⟨rfl,rfl⟩)
  |((with_reducible refine' Bh ?_ ?_);any_goals exact⟨rfl,rfl,rfl,rfl⟩)
  |((with_reducible refine' qG ?_ ?_);any_goals exact⟨rfl,rfl⟩)
  |((with_reducible refine' qZ ?_ ?_);any_goals exact⟨rfl,rfl,rfl,rfl⟩)
  |((with_reducible refine' RR ?_ ?_);any_goals exact⟨rfl,rfl⟩)
  |((with_reducible refine' Tq ?_ ?_);any_goals exact⟨rfl,rfl,rfl,rfl⟩)
  |((with_reducible refine' qB ?_ ?_);any_goals exact⟨rfl,rfl,rfl⟩)
  |((with_reducible refine' qV ?_ ?_);any_goals exact⟨rfl,rfl,rfl,rfl,rfl⟩)
  |((with_reducible refine' qD ?_ ?_);any_goals exact⟨rfl,rfl,rfl⟩)
  |((with_reducible refine' qX ?_ ?_);any_goals exact⟨rfl,rfl,rfl,rfl,rfl⟩)
  |((with_reducible refine' qC ?_ ?_);any_goals exact⟨rfl,rfl,rfl⟩)
  |((with_reducible refine' qW ?_ ?_);any_goals exact⟨rfl,rfl,rfl,rfl,rfl⟩)
  |((with_reducible refine' qF ?_ ?_);any_goals exact⟨rfl,rfl,rfl⟩)
  |((with_reducible refine' qY ?_ ?_);any_goals exact⟨rfl,rfl,rfl,rfl,rfl⟩)
  |((with_reducible refine' qJ ?_ ?_);any_goals exact⟨rfl,rfl,rfl⟩)
  |((with_reducible refine' jd ?_ ?_);any_goals exact⟨rfl,rfl,rfl,rfl,rfl⟩)
  |((with_reducible refine' qA ?_ ?_);any_goals exact⟨rfl,rfl,rfl⟩)
  |((with_reducible refine' qU ?_ ?_);any_goals exact⟨rfl,rfl,rfl,rfl,rfl⟩)
  |((with_reducible refine' qI ?_ ?_);any_goals exact⟨rfl,rfl,rfl⟩)
  |((with_reducible refine' jb ?_ ?_);any_goals exact⟨rfl,rfl,rfl,rfl,rfl⟩)
  |((with_reducible refine' qy ?_ ?_);any_goals exact⟨rfl,rfl,rfl⟩)
  |((with_reducible refine' qT ?_ ?_);any_goals exact⟨rfl,rfl,rfl,rfl,rfl⟩)
  |((with_reducible refine' qw ?_ ?_);any_goals exact⟨rfl,rfl⟩)
  |((with_reducible refine' qS ?_ ?_);any_goals exact⟨rfl,rfl,rfl,rfl⟩)
  |((with_reducible refine' RQ ?_ ?_);any_goals exact⟨rfl,rfl,rfl,rfl⟩)
  |((with_reducible refine' Tp ?_ ?_);any_goals exact⟨rfl,rfl,rfl,rfl,rfl,rfl⟩)
  |((with_reducible refine' qH ?_ ?_);any_goals exact⟨rfl,rfl,rfl⟩)
  |((with_reducible refine' ja ?_ ?_);any_goals exact⟨rfl,rfl,rfl,rfl,rfl⟩)
  |((with_reducible refine' XM 0 ?_ ?_);any_goals exact⟨rfl,rfl,rfl,rfl⟩)
  |((with_reducible refine' XM 1 ?_ ?_);any_goals exact⟨rfl,rfl,rfl,rfl⟩)
  |((with_reducible refine' XM 2 ?_ ?_);any_goals exact⟨rfl,rfl,rfl,rfl⟩)
  |((with_reducible refine' XM 3 ?_ ?_);any_goals exact⟨rfl,rfl,rfl,rfl⟩)
  |((with_reducible refine' XM 4 ?_ ?_);any_goals exact⟨rfl,rfl,rfl,rfl⟩)
  |((with_reducible refine' XM 5 ?_ ?_);any_goals exact⟨rfl,rfl,rfl,rfl⟩)
  |((with_reducible refine' XM 6 ?_ ?_);any_goals exact⟨rfl,rfl,rfl,rfl⟩)
  |((with_reducible refine' XY 0 ?_ ?_);any_goals exact⟨rfl,rfl,rfl,rfl,rfl,rfl⟩)
  |((with_reducible refine' XY 1 ?_ ?_);any_goals exact⟨rfl,rfl,rfl,rfl,rfl,rfl⟩)
  |((with_reducible refine' XY 2 ?_ ?_);any_goals exact⟨rfl,rfl,rfl,rfl,rfl,rfl⟩)
  |((with_reducible refine' XY 3 ?_ ?_);any_goals exact⟨rfl,rfl,rfl,rfl,rfl,rfl⟩)
  |((with_reducible refine' XY 4 ?_ ?_);any_goals exact⟨rfl,rfl,rfl,rfl,rfl,rfl⟩)
  |((with_reducible refine' XY 5 ?_ ?_);any_goals exact⟨rfl,rfl,rfl,rfl,rfl,rfl⟩)
  |((with_reducible refine' XY 6 ?_ ?_);any_goals exact⟨rfl,rfl,rfl,rfl,rfl,rfl⟩)
  |((with_reducible refine' ZC 0 ?_ ?_);any_goals exact⟨rfl,rfl,rfl,rfl⟩)
  |((with_reducible refine' ZC 1 ?_ ?_);any_goals exact⟨rfl,rfl,rfl,rfl⟩)
  |((with_reducible refine' ZC 2 ?_ ?_);any_goals exact⟨rfl,rfl,rfl,rfl⟩)
  |((with_reducible refine' ZC 3 ?_ ?_);any_goals exact⟨rfl,rfl,rfl,rfl⟩)
  |((with_reducible refine' ZC 4 ?_ ?_);any_goals exact⟨rfl,rfl,rfl,rfl⟩)
  |((with_reducible refine' ZC 5 ?_ ?_);any_goals exact⟨rfl,rfl,rfl,rfl⟩)
  |((with_reducible refine' ZC 6 ?_ ?_);any_goals exact⟨rfl,rfl,rfl,rfl⟩)
  |((with_reducible refine' ZF 0 ?_ ?_);any_goals exact⟨rfl,rfl,rfl,rfl,rfl,rfl⟩)
  |((with_reducible refine' ZF 1 ?_ ?_);any_goals exact⟨rfl,rfl,rfl,rfl,rfl,rfl⟩)
  |((with_reducible refine' ZF 2 ?_ ?_);any_goals exact⟨rfl,rfl,rfl,rfl,rfl,rfl⟩)
  |((with_reducible refine' ZF 3 ?_ ?_);any_goals exact⟨rfl,rfl,rfl,rfl,rfl,rfl⟩)
  |((with_reducible refine' ZF 4 ?_ ?_);any_goals exact⟨rfl,rfl,rfl,rfl,rfl,rfl⟩)
  |((with_reducible refine' ZF 5 ?_ ?_);any_goals exact⟨rfl,rfl,rfl,rfl,rfl,rfl⟩)
  |((with_reducible refine' ZF 6 ?_ ?_);any_goals exact⟨rfl,rfl,rfl,rfl,rfl,rfl⟩)
  |((with_reducible refine' EL 0 ?_ ?_);any_goals exact⟨rfl,rfl,rfl,rfl,rfl,rfl⟩)
  |((with_reducible refine' EL 1 ?_ ?_);any_goals exact⟨rfl,rfl,rfl,rfl,rfl,rfl⟩)
  |((with_reducible refine' EL 2 ?_ ?_);any_goals exact⟨rfl,rfl,rfl,rfl,rfl,rfl⟩)
  |((with_reducible refine' EL 3 ?_ ?_);any_goals exact⟨rfl,rfl,rfl,rfl,rfl,rfl⟩)
  |((with_reducible refine' EL 4 ?_ ?_);any_goals exact⟨rfl,rfl,rfl,rfl,rfl,rfl⟩)
  |((with_reducible refine' EL 5 ?_ ?_);any_goals exact⟨rfl,rfl,rfl,rfl,rfl,rfl⟩)
  |((with_reducible refine' EL 6 ?_ ?_);any_goals exact⟨rfl,rfl,rfl,rfl,rfl,rfl⟩)
  |((with_reducible refine' uj ?_ ?_);any_goals exact⟨rfl,rfl,rfl,rfl⟩)
  |((with_reducible refine' qE ?_ ?_);any_goals exact⟨rfl,rfl,rfl⟩)
  |((with_reducible refine' Mw ?_ fun _=>?_);any_goals exact rfl)
  |with_reducible exact jt):F T st:=h hn T st hK trivial hM
theorem Qc(j:Nat){F:Tr AV→St→Prop}{T:Tr AV}{st:St}(hK:Jk K T)(hM:Mem h0 n0 X st M)(hn:g')(h:To (SG j (fun s=>s=st) h0 n0 X K M F) g':=by
 repeat' first
  |with_reducible refine' RO ?_
  |with_reducible refine' qK ?_
  |with_reducible refine' qv ?_
  |with_reducible refine' qx ?_
  |with_reducible refine' Dm ?_
  |with_reducible refine' RP ?_
  |with_reducible refine' Dl ?_
  |with_reducible refine' Gu ?_
  |((with_reducible refine' RS ?_ ?_);any_goals exact⟨rfl,rfl⟩)
  |((with_reducible refine' Ts ?_ ?_);any_goals exact⟨rfl,rfl,rfl,rfl⟩)
  |((with_reducible refine' Gv ?_ ?_);any_goals exact⟨rfl,rfl⟩)
  |((with_reducible refine' Bh ?_ ?_);any_goals exact⟨rfl,rfl,rfl,rfl⟩)
  |((with_reducible refine' qG ?_ ?_);any_goals exact⟨rfl,rfl⟩)
  |((with_reducible refine' qZ ?_ ?_);any_goals exact⟨rfl,rfl,rfl,rfl⟩)
  |((with_reducible refine' RR ?_ ?_);any_goals exact⟨rfl,rfl⟩)
  |((with_reducible refine' Tq ?_ ?_);any_goals exact⟨rfl,rfl,rfl,rfl⟩)
  |((with_reducible refine' qB ?_ ?_);any_goals exact⟨rfl,rfl,rfl⟩)
  |((with_reducible refine' qV ?_ ?_);any_goals exact⟨rfl,rfl,rfl,rfl,rfl⟩)
  |((with_reducible refine' qD ?_ ?_);any_goals exact⟨rfl,rfl,rfl⟩)
  |((with_reducible refine' qX ?_ ?_);any_goals exact⟨rfl,rfl,rfl,rfl,rfl⟩)
  |((with_reducible refine' qC ?_ ?_);any_goals exact⟨rfl,rfl,rfl⟩)
  |((with_reducible refine' qW ?_ ?_);any_goals exact⟨rfl,rfl,rfl,rfl,rfl⟩)
  |((with_reducible refine' qF ?_ ?_);any_goals exact⟨rfl,rfl,rfl⟩)
  |((with_reducible refine' qY ?_ ?_);any_goals exact⟨rfl,rfl,rfl,rfl,rfl⟩)
  |((with_reducible refine' qJ ?_ ?_);any_goals exact⟨rfl,rfl,rfl⟩)
  |((with_reducible refine' jd ?_ ?_);any_goals exact⟨rfl,rfl,rfl,rfl,rfl⟩)
  |((with_reducible refine' qA ?_ ?_);any_goals exact⟨rfl,rfl,rfl⟩)
  |((with_reducible refine' qU ?_ ?_);any_goals exact⟨rfl,rfl,rfl,rfl,rfl⟩)
  |((with_reducible refine' qI ?_ ?_);any_goals exact⟨rfl,rfl,rfl⟩)
  |((with_reducible refine' jb ?_ ?_);any_goals exact⟨rfl,rfl,rfl,rfl,rfl⟩)
  |((with_reducible refine' qy ?_ ?_);any_goals exact⟨rfl,rfl,rfl⟩)
  |((with_reducible refine' qT ?_ ?_);any_goals exact⟨rfl,rfl,rfl,rfl,rfl⟩)
  |((with_reducible refine' qw ?_ ?_);any_goals exact⟨rfl,rfl⟩)
  |((with_reducible refine' qS ?_ ?_);any_goals exact⟨rfl,rfl,rfl,rfl⟩)
  |((with_reducible refine' RQ ?_ ?_);any_goals exact⟨rfl,rfl,rfl,rfl⟩)
  |((with_reducible refine' Tp ?_ ?_);any_goals exact⟨rfl,rfl,rfl,rfl,rfl,rfl⟩)
  |((with_reducible refine' qH ?_ ?_);any_goals exact⟨rfl,rfl,rfl⟩)
  |((with_reducible refine' ja ?_ ?_);any_goals exact⟨rfl,rfl,rfl,rfl,rfl⟩)
  |((with_reducible refine' XM 0 ?_ ?_);any_goals exact⟨rfl,rfl,rfl,rfl⟩)
  |((with_reducible refine' XM 1 ?_ ?_);any_goals exact⟨rfl,rfl,rfl,rfl⟩)
  |((with_reducible refine' XM 2 ?_ ?_);any_goals exact⟨rfl,rfl,rfl,rfl⟩)
  |((with_reducible refine' XM 3 ?_ ?_);any_goals exact⟨rfl,rfl,rfl,rfl⟩)
  |((with_reducible refine' XM 4 ?_ ?_);any_goals exact⟨rfl,rfl,rfl,rfl⟩)
  |((with_reducible refine' XM 5 ?_ ?_);any_goals exact⟨rfl,rfl,rfl,rfl⟩)
  |((with_reducible refine' XM 6 ?_ ?_);any_goals exact⟨rfl,rfl,rfl,rfl⟩)
  |((with_reducible refine' XY 0 ?_ ?_);any_goals exact⟨rfl,rfl,rfl,rfl,rfl,rfl⟩)
  |((with_reducible refine' XY 1 ?_ ?_);any_goals exact⟨rfl,rfl,rfl,rfl,rfl,rfl⟩)
  |((with_reducible refine' XY 2 ?_ ?_);any_goals exact⟨rfl,rfl,rfl,rfl,rfl,rfl⟩)
  |((with_reducible refine' XY 3 ?_ ?_);any_goals exact⟨rfl,rfl,rfl,rfl,rfl,rfl⟩)
  |((with_reducible refine' XY 4 ?_ ?_);any_goals exact⟨rfl,rfl,rfl,rfl,rfl,rfl⟩)
  |((with_reducible refine' XY 5 ?_ ?_);any_goals exact⟨rfl,rfl,rfl,rfl,rfl,rfl⟩)
  |((with_reducible refine' XY 6 ?_ ?_);any_goals exact⟨rfl,rfl,rfl,rfl,rfl,rfl⟩)
  |((with_reducible refine' ZC 0 ?_ ?_);any_goals exact⟨rfl,rfl,rfl,rfl⟩)
  |((with_reducible refine' ZC 1 ?_ ?_);any_goals exact⟨rfl,rfl,rfl,rfl⟩)
  |((with_reducible refine' ZC 2 ?_ ?_);any_goals exact⟨rfl,rfl,rfl,rfl⟩)
  |((with_reducible refine' ZC 3 ?_ ?_);any_goals exact⟨rfl,rfl,rfl,rfl⟩)
  |((with_reducible refine' ZC 4 ?_ ?_);any_goals exact⟨rfl,rfl,rfl,rfl⟩)
  |((with_reducible refine' ZC 5 ?_ ?_);any_goals exact⟨rfl,rfl,rfl,rfl⟩)
  |((with_reducible refine' ZC 6 ?_ ?_);any_goals exact⟨rfl,rfl,rfl,rfl⟩)
  |((with_reducible refine' ZF 0 ?_ ?_);any_goals exact⟨rfl,rfl,rfl,rfl,rfl,rfl⟩)
  |((with_reducible refine' ZF 1 ?_ ?_);any_goals exact⟨rfl,rfl,rfl,rfl,rfl,rfl⟩)
  |((with_reducible refine' ZF 2 ?_ ?_);any_goals exact⟨rfl,rfl,rfl,rfl,rfl,rfl⟩)
  |((with_reducible refine' ZF 3 ?_ ?_);any_goals exact⟨rfl,rfl,rfl,rfl,rfl,rfl⟩)
  |((with_reducible refine' ZF 4 ?_ ?_);any_goals exact⟨rfl,rfl,rfl,rfl,rfl,rfl⟩)
  |((with_reducible refine' ZF 5 ?_ ?_);any_goals exact⟨rfl,rfl,rfl,rfl,rfl,rfl⟩)
  |((with_reducible refine' ZF 6 ?_ ?_);any_goals exact⟨rfl,rfl,rfl,rfl,rfl,rfl⟩)
  |((with_reducible refine' uj ?_ ?_);any_goals exact⟨rfl,rfl,rfl,rfl⟩)
  |((with_reducible refine' qE ?_ ?_);any_goals exact⟨rfl,rfl,rfl⟩)
  |with_reducible exact Mv):F T st:=h hn T st hK rfl hM
end
section
variable {P:Program} {G:Env} {N:Nat} {h0:Hp} {n0:Nat} {X:List Nat} {K:List (Nat×AV)} {M:List (Nat×Nat×List AV)} {ops rest:List Oper} {R:Tr AV→St→Prop} {Q:Ex→Tr AV→St→Prop} {d:Nat} {ty:TypeId} {pos:String} {af:Array Edge} {T:Tr AV} {st:St}
theorem YX{g:Operand}{a b:Code}{p:Prop} [Decidable p](hK:Jk K T)(hg:Uf G K g=some (.bool (decide p)))(ha:p→W P G N a Q T st)(hb: ¬p→W P G N b Q T st):W P G N (.cond g a b) Q T st:=Qj (hK.QN hg) (fun h=>ha (of_decide_eq_true h)) fun h=>hb (of_decide_eq_false h)
theorem IU{g:Operand}{a b:Code}{p:Prop} [Decidable p](hK:Jk K T)(hg:Uf G K g=some (.bool (!decide p)))(ha: ¬p→W P G N a Q T st)(hb:p→W P G N b Q T st):W P G N (.cond g a b) Q T st:=Qj (hK.QN hg) (fun h=>ha (by simpa using h)) fun h=>hb (by simpa using h)
theorem oQ{f:FuncId}{args:Array Operand}{tys:Array TypeId}{l:List AV}{u:AV}(hK:Jk K T)(hM:Mem h0 n0 X st M)(h: ∃v st',Ev P G f l st v st'∧v=u∧Qt st st')(ha:Ym (Uf G K) args.toList=some l)(hN:Nat.ble (d+1) N=true)(hn: ∀T' st',Jk ((d,u)::K) T'→Mem h0 n0 X st' M→WR P G N ops rest R T' st'):
  WR P G N ops (⟨some d,.call {callee:=.value (.func f),args:=args,argTypes:=tys},ty,pos,af,none⟩::rest) R T st:=by
 obtain⟨v,st',ev,rfl,q⟩:=h;exact o1 hK (Qg ha ev) hN fun T' hK'=>hn T' st' hK' (hM.quiet q)
theorem oR{f:FuncId}{args:Array Operand}{tys:Array TypeId}{l:List AV}{u:AV}(k:Nat){c m m':Nat}{r r':List AV}(hK:Jk K T)(hM:Mem h0 n0 X st M)(h: ∃v st',Ev P G f l st v st'∧v=u∧Fb [c] st st'∧JS st'.h.get c m' r')(hk:M[k]? =some (c,m,r))(ha:Ym (Uf G K) args.toList=some l)(hN:Nat.ble (d+1) N=true)(hn: ∀T' st',Jk ((d,u)::K) T'→Mem h0 n0 X st' (M.set k (c,m',r'))→WR P G N ops rest R T' st'):
  WR P G N ops (⟨some d,.call {callee:=.value (.func f),args:=args,argTypes:=tys},ty,pos,af,none⟩::rest) R T st:=by
 obtain⟨v,st',ev,rfl,q,w⟩:=h;exact o1 hK (Qg ha ev) hN fun T' hK'=>hn T' st' hK' (hM.JV hk q w)
theorem QG{f:FuncId}{fn:Func}{c:Code}{N:Nat}{rs:List ResultVar}{args:List AV}{Q:AV→St→Prop}(hs:G.s f=none)(hf:P.funcs[f]? =some fn)(hb:fn.body=some c)(hN:fn.ntmps=N)(hr:fn.results.toList=rs)
 (h: ∀T,(∀t,Zr T t=(args[t]?).getD (.tup []))→W P G N c (fun x T st=>(x=.nor∨x=.ret)∧ ∃v,U0 P rs T st=some v∧Q v st) T st) (hname:(fn.name== "runtime.NumGoroutine")=false:=by decide) (hl:args.length≤N:=by simp): ∃v st',Ev P G f args st v st'∧Q v st':=uE hs hf hb hN hr hname hl h
theorem J7{t:Nat}{v:AV}(hK:Jk K T)(h:K.lookup t=some v):U0 P [.tmp t] T st=some v:=Ky (QQ hK h)
theorem Zm{t s:Nat}{u v:AV}(hK:Jk K T)(h:K.lookup t=some u)(h':K.lookup s=some v):U0 P [.tmp t,.tmp s] T st=some (.tup [u,v]):=XR (QQ hK h) (QQ hK h')
theorem XG{a n:Nat}{t:TypeId}{l r:List AV} [ht:TA P t n](k:Nat){c m off:Nat}(hK:Jk K T)(hM:Mem h0 n0 X st M)(h:K.lookup a=some (.ptr c m off))(hk:M[k]? =some (c,m,l))(hl:Aj n (EA off l) (fun r=>some (AV.agg r))=some (.agg r)):U0 P [.cell a t] T st=some (.agg r):=Ky (Ya hK h (hM.load hk (Ja ht.h hl)))
end
end Go.Proofs.YtadjjadimlkkgaaGreatDoor
