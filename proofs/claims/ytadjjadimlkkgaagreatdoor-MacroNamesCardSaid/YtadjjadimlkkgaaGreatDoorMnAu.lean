/-
  Straight runs of operations in one step.
-/
import Derived.Test.YtadjjadimlkkgaaGreatDoorMnTyg
namespace Go.Proofs.YtadjjadimlkkgaaGreatDoor
open Go Go.RowKit
set_option linter.unusedVariables false
set_option linter.unusedSectionVars false

class FO(P:Program)(t:TypeId)(f:Nat)(o:outParam Nat):Prop where
 h:QY P t f=some o
class T1(P:Program)(t:TypeId):Prop where
 h:tk P t=.one
class TA(P:Program)(t:TypeId)(n:outParam Nat):Prop where
 h:tk P t=.agg n
class ZE(P:Program)(t:TypeId)(l:outParam (List AV)):Prop where
 h:zeroOf P t=some l
instance :FO Tryz.prog 26 0 0:=⟨Zf⟩
instance :FO Tryz.prog 26 1 1:=⟨UJ⟩
instance :FO Tryz.prog 26 2 2:=⟨VT⟩
instance :FO Tryz.prog 26 3 3:=⟨VS⟩
instance :FO Tryz.prog 26 4 4:=⟨L7⟩
instance :FO Tryz.prog 28 0 0:=⟨Lz⟩
instance :FO Tryz.prog 28 1 1:=⟨Ly⟩
instance :FO Tryz.prog 28 2 2:=⟨Aw⟩
instance :FO Tryz.prog 69 0 0:=⟨L6⟩
instance :FO Tryz.prog 69 1 1:=⟨VR⟩
instance :FO Tryz.prog 69 2 2:=⟨L5⟩
instance :FO Tryz.prog 69 3 7:=⟨L4⟩
instance :FO Tryz.prog 230 0 0:=⟨Ze⟩
instance :FO Tryz.prog 230 1 1:=⟨Zd⟩
instance :FO Tryz.prog 102 0 0:=⟨Ay⟩
instance :FO Tryz.prog 102 1 1:=⟨Ax⟩
instance :FO Tryz.prog 102 2 2:=⟨L8⟩
instance :FO Tryz.prog 75 0 0:=⟨KL⟩
instance :FO Tryz.prog 75 1 1:=⟨KK⟩
instance :FO Tryz.prog 81 0 0:=⟨Zv⟩
instance :FO Tryz.prog 90 0 0:=⟨YW⟩
instance :FO Tryz.prog 90 1 1:=⟨UQ⟩
instance :T1 Tryz.prog 3:=⟨Zp⟩
instance :T1 Tryz.prog 9:=⟨QN⟩
instance :T1 Tryz.prog 24:=⟨YX⟩
instance :TA Tryz.prog 26 5:=⟨Qs⟩
instance :T1 Tryz.prog 22:=⟨YY⟩
instance :T1 Tryz.prog 23:=⟨U0⟩
instance :TA Tryz.prog 28 7:=⟨Gq⟩
instance :TA Tryz.prog 69 8:=⟨Y7⟩
instance :T1 Tryz.prog 41:=⟨Em⟩
instance :TA Tryz.prog 230 2:=⟨Gp⟩
instance :TA Tryz.prog 102 3:=⟨Xw⟩
instance :TA Tryz.prog 164 2:=⟨Hi⟩
instance :ZE Tryz.prog 3 [.int .i64 0]:=⟨yi⟩
instance :ZE Tryz.prog 9 [.str []]:=⟨JG⟩
instance :ZE Tryz.prog 26 [.str [],.str [],.int .i64 0,.int .i64 0,.nils]:=⟨Ja⟩
instance :ZE Tryz.prog 69 [.str [],.nils,.str [],.str [],.int .i64 0,.int .i64 0,.nils,.int .i64 0]:=⟨Y5⟩
instance :ZE Tryz.prog 230 [.nils,.nils]:=⟨Ee⟩
instance :ZE Tryz.prog 102 [.str [],.int .i64 0,.int .i64 0]:=⟨Zy⟩
instance :ZE Tryz.prog 81 [.nils]:=⟨VZ⟩
instance :ZE Tryz.prog 90 [.nils,.int .i64 0]:=⟨V4⟩
instance :ZE Tryz.prog 164 [.int .i64 0,.int .i64 0]:=⟨XR⟩
class SZ(P:Program)(t:TypeId)(n:outParam Nat):Prop where
 h:ZI P t=some n
instance :SZ Tryz.prog 3 1:=⟨SC⟩
instance :SZ Tryz.prog 9 1:=⟨PC⟩
instance :SZ Tryz.prog 24 1:=⟨UI⟩
instance :SZ Tryz.prog 26 5:=⟨Qq⟩
instance :SZ Tryz.prog 23 1:=⟨VI⟩
instance :SZ Tryz.prog 69 8:=⟨V9⟩
instance :SZ Tryz.prog 41 1:=⟨Er⟩
instance :SZ Tryz.prog 230 2:=⟨Ep⟩
instance :SZ Tryz.prog 102 3:=⟨Gw⟩
instance :SZ Tryz.prog 164 2:=⟨PD⟩
def SG(j:Nat)(q:St→Prop)(h0:Hp)(n0:Nat)(X:List Nat)(K:List (Nat×AV))(M:List (Nat×Nat×List AV))(F:Tr AV→St→Prop):Prop:= ∀T st,QT K T→q st→Mem h0 n0 X st M→F T st
def To(g g':Prop):Prop:=g'→g
section
variable {j:Nat} {q:St→Prop} {P:Program} {G:Env} {N:Nat} {h0:Hp} {n0:Nat} {X:List Nat} {K:List (Nat×AV)} {M:List (Nat×Nat×List AV)} {g':Prop} {ops rest:List Oper} {R:Tr AV→St→Prop} {Q:Ex→Tr AV→St→Prop} {d:Nat} {ty:TypeId} {pos:String} {af:Array Edge}
theorem S7{k:Tr AV→St→Prop}(h:To (SG j q h0 n0 X K M k) g'):To (SG j q h0 n0 X K M (LP k Q .nor)) g':=h
theorem ur{id:Nat}(h:To (SG j q h0 n0 X K M (Q .nor)) g'):To (SG j q h0 n0 X K M (Dv id Q .nor)) g':=h
theorem jZ{a b:Code}(h:To (SG j q h0 n0 X K M (W P G N a (LP (W P G N b Q) Q))) g'):To (SG j q h0 n0 X K M (W P G N (.seq a b) Q)) g':=fun h' T st hK hq hM=>Qn (h h' T st hK hq hM)
theorem DE{id:Nat}{c:Code}(h:To (SG j q h0 n0 X K M (W P G N c (Dv id Q))) g'):To (SG j q h0 n0 X K M (W P G N (.block id c) Q)) g':=fun h' T st hK hq hM=>Uq (h h' T st hK hq hM)
theorem S8(h:To (SG j q h0 n0 X K M (Q .nor)) g'):To (SG j q h0 n0 X K M (W P G N .skip Q)) g':=fun h' T st hK hq hM=>Q8 (h h' T st hK hq hM)
theorem DD{l:Nat}(h:To (SG j q h0 n0 X K M (Q .nor)) g'):To (SG j q h0 n0 X K M (W P G N (.label l) Q)) g':=fun h' T st hK hq hM=>qM (h h' T st hK hq hM)
theorem Gt{id:Nat}{l:List Oper}(h:To (SG j q h0 n0 X K M (WR P G N l l (Q .nor))) g'):To (SG j q h0 n0 X K M (W P G N (.region id l.toArray false) Q)) g':=fun h' T st hK hq hM=>Qb (h h' T st hK hq hM)
theorem ub(h:To (SG j q h0 n0 X K M R) g'):To (SG j q h0 n0 X K M (WR P G N ops [] R)) g':=fun h' T st hK hq hM=>Qy (h h' T st hK hq hM)
theorem En{op:Op}{v:AV}(hN:Nat.ble (d+1) N=true)(ho: ∀st,Mem h0 n0 X st M→Zo P G K op st v st)(h:To (SG j q h0 n0 X ((d,v)::K) M (WR P G N ops rest R)) g'):To (SG (j+1) q h0 n0 X K M (WR P G N ops (⟨some d,op,ty,pos,af,none⟩::rest) R)) g':=
 fun h' T st hK hq hM=>o1 hK (ho st hM) hN fun T' hK'=>h h' T' st hK' hq hM
theorem Eo{jj tt:Nat}{pol:Bool}{op:Op}{v:AV}{g1:Prop}(hd:JL ops jj=some tt)(hb:K.lookup tt=some (.bool pol))(hN:Nat.ble (d+1) N=true)(ho: ∀st,Mem h0 n0 X st M→Zo P G K op st v st)(h:To (SG j q h0 n0 X ((d,v)::K) M (WR P G N ops rest R)) g1):To (SG (j+1) q h0 n0 X K M (WR P G N ops (⟨some d,op,ty,pos,af,some (jj,pol)⟩::rest) R)) g1:=
 fun h' T st hK hq hM=>og hK hd hb (ho st hM) hN fun T' hK'=>h h' T' st hK' hq hM
theorem zD{jj tt:Nat}{b pol:Bool}{op:Op}{g1:Prop}(hh:JL ops jj=some tt∧K.lookup tt=some (.bool b)∧(b==pol)=false∧Nat.ble (d+1) N=true)(h:To (SG j q h0 n0 X ((d,.tup [])::K) M (WR P G N ops rest R)) g1):To (SG (j+1) q h0 n0 X K M (WR P G N ops (⟨some d,op,ty,pos,af,some (jj,pol)⟩::rest) R)) g1:=
 fun h' T st hK hq hM=>gn hK hh.1 hh.2.1 hh.2.2.1 hh.2.2.2 fun T' hK'=>h h' T' st hK' hq hM
theorem ui{jj tt:Nat}{pol:Bool}{op:Op}{g1:Prop}(hh:JL ops jj=some tt∧K.lookup tt=some (.tup [])∧Nat.ble (d+1) N=true)(h:To (SG j q h0 n0 X ((d,.tup [])::K) M (WR P G N ops rest R)) g1):To (SG (j+1) q h0 n0 X K M (WR P G N ops (⟨some d,op,ty,pos,af,some (jj,pol)⟩::rest) R)) g1:=
 fun h' T st hK hq hM=>vr hK hh.1 hh.2.1 hh.2.2 fun T' hK'=>h h' T' st hK' hq hM
theorem SB{x:Operand}{v:AV}{g1:Prop}(hh:Jq G K x=some v∧Nat.ble (d+1) N=true)(h:To (SG j q h0 n0 X ((d,v)::K) M (WR P G N ops rest R)) g1):To (SG (j+1) q h0 n0 X K M (WR P G N ops (⟨some d,.move x,ty,pos,af,none⟩::rest) R)) g1:=En hh.2 (fun st hM=>Qd hh.1) h
theorem M0{jj tt:Nat}{pol:Bool}{x:Operand}{v:AV}{g1:Prop}(hh:Jq G K x=some v∧JL ops jj=some tt∧K.lookup tt=some (.bool pol)∧Nat.ble (d+1) N=true)(h:To (SG j q h0 n0 X ((d,v)::K) M (WR P G N ops rest R)) g1):To (SG (j+1) q h0 n0 X K M (WR P G N ops (⟨some d,.move x,ty,pos,af,some (jj,pol)⟩::rest) R)) g1:=Eo hh.2.1 hh.2.2.1 hh.2.2.2 (fun st hM=>Qd hh.1) h
theorem Gu{x:Operand}{v:AV}{g1:Prop}(hh:Jq G K x=some v∧Nat.ble (d+1) N=true)(h:To (SG j q h0 n0 X ((d,v)::K) M (WR P G N ops rest R)) g1):To (SG (j+1) q h0 n0 X K M (WR P G N ops (⟨some d,.assign x,ty,pos,af,none⟩::rest) R)) g1:=En hh.2 (fun st hM=>Q0 hh.1) h
theorem Bs{jj tt:Nat}{pol:Bool}{x:Operand}{v:AV}{g1:Prop}(hh:Jq G K x=some v∧JL ops jj=some tt∧K.lookup tt=some (.bool pol)∧Nat.ble (d+1) N=true)(h:To (SG j q h0 n0 X ((d,v)::K) M (WR P G N ops rest R)) g1):To (SG (j+1) q h0 n0 X K M (WR P G N ops (⟨some d,.assign x,ty,pos,af,some (jj,pol)⟩::rest) R)) g1:=Eo hh.2.1 hh.2.2.1 hh.2.2.2 (fun st hM=>Q0 hh.1) h
theorem uk{t:TypeId}{x:Operand}{f c m off o:Nat} [ho:FO P t f o]{g1:Prop}(hh:Jq G K x=some (.ptr c m off)∧Nat.ble (d+1) N=true)(h:To (SG j q h0 n0 X ((d,.ptr c m (off+o))::K) M (WR P G N ops rest R)) g1):To (SG (j+1) q h0 n0 X K M (WR P G N ops (⟨some d,.fieldAddr t x f,ty,pos,af,none⟩::rest) R)) g1:=En hh.2 (fun st hM=>Qw ho.h hh.1) h
theorem uO{jj tt:Nat}{pol:Bool}{t:TypeId}{x:Operand}{f c m off o:Nat} [ho:FO P t f o]{g1:Prop}(hh:Jq G K x=some (.ptr c m off)∧JL ops jj=some tt∧K.lookup tt=some (.bool pol)∧Nat.ble (d+1) N=true)(h:To (SG j q h0 n0 X ((d,.ptr c m (off+o))::K) M (WR P G N ops rest R)) g1):To (SG (j+1) q h0 n0 X K M (WR P G N ops (⟨some d,.fieldAddr t x f,ty,pos,af,some (jj,pol)⟩::rest) R)) g1:=Eo hh.2.1 hh.2.2.1 hh.2.2.2 (fun st hM=>Qw ho.h hh.1) h
theorem SA{x:Operand}{c m off:Nat}{g1:Prop}(hh:Jq G K x=some (.ptr c m off)∧Nat.ble (d+1) N=true)(h:To (SG j q h0 n0 X ((d,.ptr c m off)::K) M (WR P G N ops rest R)) g1):To (SG (j+1) q h0 n0 X K M (WR P G N ops (⟨some d,.nilCheck x,ty,pos,af,none⟩::rest) R)) g1:=En hh.2 (fun st hM=>WE hh.1 rfl) h
theorem Mz{jj tt:Nat}{pol:Bool}{x:Operand}{c m off:Nat}{g1:Prop}(hh:Jq G K x=some (.ptr c m off)∧JL ops jj=some tt∧K.lookup tt=some (.bool pol)∧Nat.ble (d+1) N=true)(h:To (SG j q h0 n0 X ((d,.ptr c m off)::K) M (WR P G N ops rest R)) g1):To (SG (j+1) q h0 n0 X K M (WR P G N ops (⟨some d,.nilCheck x,ty,pos,af,some (jj,pol)⟩::rest) R)) g1:=Eo hh.2.1 hh.2.2.1 hh.2.2.2 (fun st hM=>WE hh.1 rfl) h
theorem uf{t yt:TypeId}{x y:Operand}{k:IntKind}{a b:Int}{g1:Prop}(hh:Jq G K x=some (.int k a)∧Jq G K y=some (.int k b)∧Nat.ble (d+1) N=true)(h:To (SG j q h0 n0 X ((d,.bool (decide (a<b)))::K) M (WR P G N ops rest R)) g1):To (SG (j+1) q h0 n0 X K M (WR P G N ops (⟨some d,.binOp .lss t x y yt,ty,pos,af,none⟩::rest) R)) g1:=En hh.2.2 (fun st hM=>Hr hh.1 hh.2.1) h
theorem uI{jj tt:Nat}{pol:Bool}{t yt:TypeId}{x y:Operand}{k:IntKind}{a b:Int}{g1:Prop}(hh:Jq G K x=some (.int k a)∧Jq G K y=some (.int k b)∧JL ops jj=some tt∧K.lookup tt=some (.bool pol)∧Nat.ble (d+1) N=true)(h:To (SG j q h0 n0 X ((d,.bool (decide (a<b)))::K) M (WR P G N ops rest R)) g1):To (SG (j+1) q h0 n0 X K M (WR P G N ops (⟨some d,.binOp .lss t x y yt,ty,pos,af,some (jj,pol)⟩::rest) R)) g1:=Eo hh.2.2.1 hh.2.2.2.1 hh.2.2.2.2 (fun st hM=>Hr hh.1 hh.2.1) h
theorem uh{t yt:TypeId}{x y:Operand}{k:IntKind}{a b:Int}{g1:Prop}(hh:Jq G K x=some (.int k a)∧Jq G K y=some (.int k b)∧Nat.ble (d+1) N=true)(h:To (SG j q h0 n0 X ((d,.bool (decide (b<a)))::K) M (WR P G N ops rest R)) g1):To (SG (j+1) q h0 n0 X K M (WR P G N ops (⟨some d,.binOp .gtr t x y yt,ty,pos,af,none⟩::rest) R)) g1:=En hh.2.2 (fun st hM=>O0 hh.1 hh.2.1) h
theorem uL{jj tt:Nat}{pol:Bool}{t yt:TypeId}{x y:Operand}{k:IntKind}{a b:Int}{g1:Prop}(hh:Jq G K x=some (.int k a)∧Jq G K y=some (.int k b)∧JL ops jj=some tt∧K.lookup tt=some (.bool pol)∧Nat.ble (d+1) N=true)(h:To (SG j q h0 n0 X ((d,.bool (decide (b<a)))::K) M (WR P G N ops rest R)) g1):To (SG (j+1) q h0 n0 X K M (WR P G N ops (⟨some d,.binOp .gtr t x y yt,ty,pos,af,some (jj,pol)⟩::rest) R)) g1:=Eo hh.2.2.1 hh.2.2.2.1 hh.2.2.2.2 (fun st hM=>O0 hh.1 hh.2.1) h
theorem ug{t yt:TypeId}{x y:Operand}{k:IntKind}{a b:Int}{g1:Prop}(hh:Jq G K x=some (.int k a)∧Jq G K y=some (.int k b)∧Nat.ble (d+1) N=true)(h:To (SG j q h0 n0 X ((d,.bool (decide (a≤b)))::K) M (WR P G N ops rest R)) g1):To (SG (j+1) q h0 n0 X K M (WR P G N ops (⟨some d,.binOp .leq t x y yt,ty,pos,af,none⟩::rest) R)) g1:=En hh.2.2 (fun st hM=>CM hh.1 hh.2.1) h
theorem uJ{jj tt:Nat}{pol:Bool}{t yt:TypeId}{x y:Operand}{k:IntKind}{a b:Int}{g1:Prop}(hh:Jq G K x=some (.int k a)∧Jq G K y=some (.int k b)∧JL ops jj=some tt∧K.lookup tt=some (.bool pol)∧Nat.ble (d+1) N=true)(h:To (SG j q h0 n0 X ((d,.bool (decide (a≤b)))::K) M (WR P G N ops rest R)) g1):To (SG (j+1) q h0 n0 X K M (WR P G N ops (⟨some d,.binOp .leq t x y yt,ty,pos,af,some (jj,pol)⟩::rest) R)) g1:=Eo hh.2.2.1 hh.2.2.2.1 hh.2.2.2.2 (fun st hM=>CM hh.1 hh.2.1) h
theorem uj{t yt:TypeId}{x y:Operand}{k:IntKind}{a b:Int}{g1:Prop}(hh:Jq G K x=some (.int k a)∧Jq G K y=some (.int k b)∧Nat.ble (d+1) N=true)(h:To (SG j q h0 n0 X ((d,.bool (decide (b≤a)))::K) M (WR P G N ops rest R)) g1):To (SG (j+1) q h0 n0 X K M (WR P G N ops (⟨some d,.binOp .geq t x y yt,ty,pos,af,none⟩::rest) R)) g1:=En hh.2.2 (fun st hM=>O1 hh.1 hh.2.1) h
theorem uM{jj tt:Nat}{pol:Bool}{t yt:TypeId}{x y:Operand}{k:IntKind}{a b:Int}{g1:Prop}(hh:Jq G K x=some (.int k a)∧Jq G K y=some (.int k b)∧JL ops jj=some tt∧K.lookup tt=some (.bool pol)∧Nat.ble (d+1) N=true)(h:To (SG j q h0 n0 X ((d,.bool (decide (b≤a)))::K) M (WR P G N ops rest R)) g1):To (SG (j+1) q h0 n0 X K M (WR P G N ops (⟨some d,.binOp .geq t x y yt,ty,pos,af,some (jj,pol)⟩::rest) R)) g1:=Eo hh.2.2.1 hh.2.2.2.1 hh.2.2.2.2 (fun st hM=>O1 hh.1 hh.2.1) h
theorem uq{t yt:TypeId}{x y:Operand}{k:IntKind}{a b:Int}{g1:Prop}(hh:Jq G K x=some (.int k a)∧Jq G K y=some (.int k b)∧Nat.ble (d+1) N=true)(h:To (SG j q h0 n0 X ((d,.bool (decide (a=b)))::K) M (WR P G N ops rest R)) g1):To (SG (j+1) q h0 n0 X K M (WR P G N ops (⟨some d,.binOp .eql t x y yt,ty,pos,af,none⟩::rest) R)) g1:=En hh.2.2 (fun st hM=>Tx hh.1 hh.2.1) h
theorem uR{jj tt:Nat}{pol:Bool}{t yt:TypeId}{x y:Operand}{k:IntKind}{a b:Int}{g1:Prop}(hh:Jq G K x=some (.int k a)∧Jq G K y=some (.int k b)∧JL ops jj=some tt∧K.lookup tt=some (.bool pol)∧Nat.ble (d+1) N=true)(h:To (SG j q h0 n0 X ((d,.bool (decide (a=b)))::K) M (WR P G N ops rest R)) g1):To (SG (j+1) q h0 n0 X K M (WR P G N ops (⟨some d,.binOp .eql t x y yt,ty,pos,af,some (jj,pol)⟩::rest) R)) g1:=Eo hh.2.2.1 hh.2.2.2.1 hh.2.2.2.2 (fun st hM=>Tx hh.1 hh.2.1) h
theorem ud{t yt:TypeId}{x y:Operand}{k:IntKind}{a b:Int}{g1:Prop}(hh:Jq G K x=some (.int k a)∧Jq G K y=some (.int k b)∧Nat.ble (d+1) N=true)(h:To (SG j q h0 n0 X ((d,.bool (!decide (a=b)))::K) M (WR P G N ops rest R)) g1):To (SG (j+1) q h0 n0 X K M (WR P G N ops (⟨some d,.binOp .neq t x y yt,ty,pos,af,none⟩::rest) R)) g1:=En hh.2.2 (fun st hM=>Tv hh.1 hh.2.1) h
theorem uH{jj tt:Nat}{pol:Bool}{t yt:TypeId}{x y:Operand}{k:IntKind}{a b:Int}{g1:Prop}(hh:Jq G K x=some (.int k a)∧Jq G K y=some (.int k b)∧JL ops jj=some tt∧K.lookup tt=some (.bool pol)∧Nat.ble (d+1) N=true)(h:To (SG j q h0 n0 X ((d,.bool (!decide (a=b)))::K) M (WR P G N ops rest R)) g1):To (SG (j+1) q h0 n0 X K M (WR P G N ops (⟨some d,.binOp .neq t x y yt,ty,pos,af,some (jj,pol)⟩::rest) R)) g1:=Eo hh.2.2.1 hh.2.2.2.1 hh.2.2.2.2 (fun st hM=>Tv hh.1 hh.2.1) h
theorem uo{t yt:TypeId}{x y:Operand}{a b:List Nat}{g1:Prop}(hh:Jq G K x=some (.str a)∧Jq G K y=some (.str b)∧Nat.ble (d+1) N=true)(h:To (SG j q h0 n0 X ((d,.bool (decide (a=b)))::K) M (WR P G N ops rest R)) g1):To (SG (j+1) q h0 n0 X K M (WR P G N ops (⟨some d,.binOp .eql t x y yt,ty,pos,af,none⟩::rest) R)) g1:=En hh.2.2 (fun st hM=>QC hh.1 hh.2.1) h
theorem uQ{jj tt:Nat}{pol:Bool}{t yt:TypeId}{x y:Operand}{a b:List Nat}{g1:Prop}(hh:Jq G K x=some (.str a)∧Jq G K y=some (.str b)∧JL ops jj=some tt∧K.lookup tt=some (.bool pol)∧Nat.ble (d+1) N=true)(h:To (SG j q h0 n0 X ((d,.bool (decide (a=b)))::K) M (WR P G N ops rest R)) g1):To (SG (j+1) q h0 n0 X K M (WR P G N ops (⟨some d,.binOp .eql t x y yt,ty,pos,af,some (jj,pol)⟩::rest) R)) g1:=Eo hh.2.2.1 hh.2.2.2.1 hh.2.2.2.2 (fun st hM=>QC hh.1 hh.2.1) h
theorem uc{t yt:TypeId}{x y:Operand}{a b:List Nat}{g1:Prop}(hh:Jq G K x=some (.str a)∧Jq G K y=some (.str b)∧Nat.ble (d+1) N=true)(h:To (SG j q h0 n0 X ((d,.bool (!decide (a=b)))::K) M (WR P G N ops rest R)) g1):To (SG (j+1) q h0 n0 X K M (WR P G N ops (⟨some d,.binOp .neq t x y yt,ty,pos,af,none⟩::rest) R)) g1:=En hh.2.2 (fun st hM=>E3 hh.1 hh.2.1) h
theorem uG{jj tt:Nat}{pol:Bool}{t yt:TypeId}{x y:Operand}{a b:List Nat}{g1:Prop}(hh:Jq G K x=some (.str a)∧Jq G K y=some (.str b)∧JL ops jj=some tt∧K.lookup tt=some (.bool pol)∧Nat.ble (d+1) N=true)(h:To (SG j q h0 n0 X ((d,.bool (!decide (a=b)))::K) M (WR P G N ops rest R)) g1):To (SG (j+1) q h0 n0 X K M (WR P G N ops (⟨some d,.binOp .neq t x y yt,ty,pos,af,some (jj,pol)⟩::rest) R)) g1:=Eo hh.2.2.1 hh.2.2.2.1 hh.2.2.2.2 (fun st hM=>E3 hh.1 hh.2.1) h
theorem ua{t:TypeId}{x:Operand}{b:Bool}{g1:Prop}(hh:Jq G K x=some (.bool b)∧Nat.ble (d+1) N=true)(h:To (SG j q h0 n0 X ((d,.bool (!b))::K) M (WR P G N ops rest R)) g1):To (SG (j+1) q h0 n0 X K M (WR P G N ops (⟨some d,.unOp .not t x,ty,pos,af,none⟩::rest) R)) g1:=En hh.2 (fun st hM=>Ts hh.1) h
theorem uF{jj tt:Nat}{pol:Bool}{t:TypeId}{x:Operand}{b:Bool}{g1:Prop}(hh:Jq G K x=some (.bool b)∧JL ops jj=some tt∧K.lookup tt=some (.bool pol)∧Nat.ble (d+1) N=true)(h:To (SG j q h0 n0 X ((d,.bool (!b))::K) M (WR P G N ops rest R)) g1):To (SG (j+1) q h0 n0 X K M (WR P G N ops (⟨some d,.unOp .not t x,ty,pos,af,some (jj,pol)⟩::rest) R)) g1:=Eo hh.2.1 hh.2.2.1 hh.2.2.2 (fun st hM=>Ts hh.1) h
theorem S9{x a b:Operand}{t:Bool}{u v:AV}{g1:Prop}(hh:Jq G K x=some (.bool t)∧Jq G K a=some u∧Jq G K b=some v∧Nat.ble (d+1) N=true)(h:To (SG j q h0 n0 X ((d,Qg t u v)::K) M (WR P G N ops rest R)) g1):To (SG (j+1) q h0 n0 X K M (WR P G N ops (⟨some d,.pick x a b,ty,pos,af,none⟩::rest) R)) g1:=En hh.2.2.2 (fun st hM=>ZN hh.1 hh.2.1 hh.2.2.1) h
theorem My{jj tt:Nat}{pol:Bool}{x a b:Operand}{t:Bool}{u v:AV}{g1:Prop}(hh:Jq G K x=some (.bool t)∧Jq G K a=some u∧Jq G K b=some v∧JL ops jj=some tt∧K.lookup tt=some (.bool pol)∧Nat.ble (d+1) N=true)(h:To (SG j q h0 n0 X ((d,Qg t u v)::K) M (WR P G N ops rest R)) g1):To (SG (j+1) q h0 n0 X K M (WR P G N ops (⟨some d,.pick x a b,ty,pos,af,some (jj,pol)⟩::rest) R)) g1:=Eo hh.2.2.2.1 hh.2.2.2.2.1 hh.2.2.2.2.2 (fun st hM=>ZN hh.1 hh.2.1 hh.2.2.1) h
theorem um{x:Operand}{i:Nat}{l:List AV}{v:AV}{g1:Prop}(hh:Jq G K x=some (.tup l)∧nth l i=some v∧Nat.ble (d+1) N=true)(h:To (SG j q h0 n0 X ((d,v)::K) M (WR P G N ops rest R)) g1):To (SG (j+1) q h0 n0 X K M (WR P G N ops (⟨some d,.extract x i,ty,pos,af,none⟩::rest) R)) g1:=En hh.2.2 (fun st hM=>WG hh.1 hh.2.1) h
theorem uP{jj tt:Nat}{pol:Bool}{x:Operand}{i:Nat}{l:List AV}{v:AV}{g1:Prop}(hh:Jq G K x=some (.tup l)∧nth l i=some v∧JL ops jj=some tt∧K.lookup tt=some (.bool pol)∧Nat.ble (d+1) N=true)(h:To (SG j q h0 n0 X ((d,v)::K) M (WR P G N ops rest R)) g1):To (SG (j+1) q h0 n0 X K M (WR P G N ops (⟨some d,.extract x i,ty,pos,af,some (jj,pol)⟩::rest) R)) g1:=Eo hh.2.2.1 hh.2.2.2.1 hh.2.2.2.2 (fun st hM=>WG hh.1 hh.2.1) h
theorem ZG{t:TypeId}{x:Operand}{v:AV} [ht:T1 P t](k:Nat){c m off:Nat}{l:List AV}{g1:Prop}(hh:Jq G K x=some (.ptr c m off)∧M[k]? =some (c,m,l)∧nth l off=some v∧Nat.ble (d+1) N=true)(h:To (SG j q h0 n0 X ((d,v)::K) M (WR P G N ops rest R)) g1):To (SG (j+1) q h0 n0 X K M (WR P G N ops (⟨some d,.load t x,ty,pos,af,none⟩::rest) R)) g1:=En hh.2.2.2 (fun st hM=>Qr hh.1 (hM.load hh.2.1 (QA ht.h hh.2.2.1))) h
theorem ZS{jj tt:Nat}{pol:Bool}{t:TypeId}{x:Operand}{v:AV} [ht:T1 P t](k:Nat){c m off:Nat}{l:List AV}{g1:Prop}(hh:Jq G K x=some (.ptr c m off)∧M[k]? =some (c,m,l)∧nth l off=some v∧JL ops jj=some tt∧K.lookup tt=some (.bool pol)∧Nat.ble (d+1) N=true)(h:To (SG j q h0 n0 X ((d,v)::K) M (WR P G N ops rest R)) g1):To (SG (j+1) q h0 n0 X K M (WR P G N ops (⟨some d,.load t x,ty,pos,af,some (jj,pol)⟩::rest) R)) g1:=Eo hh.2.2.2.1 hh.2.2.2.2.1 hh.2.2.2.2.2 (fun st hM=>Qr hh.1 (hM.load hh.2.1 (QA ht.h hh.2.2.1))) h
theorem Yv{t:TypeId}{x:Operand}{n:Nat}{r:List AV} [ht:TA P t n](k:Nat){c m off:Nat}{l:List AV}{g1:Prop}(hh:Jq G K x=some (.ptr c m off)∧M[k]? =some (c,m,l)∧Ve n (Vt off l) (fun r=>some (AV.agg r))=some (.agg r)∧Nat.ble (d+1) N=true)(h:To (SG j q h0 n0 X ((d,.agg r)::K) M (WR P G N ops rest R)) g1):To (SG (j+1) q h0 n0 X K M (WR P G N ops (⟨some d,.load t x,ty,pos,af,none⟩::rest) R)) g1:=En hh.2.2.2 (fun st hM=>Qr hh.1 (hM.load hh.2.1 (Ji ht.h hh.2.2.1))) h
theorem Yy{jj tt:Nat}{pol:Bool}{t:TypeId}{x:Operand}{n:Nat}{r:List AV} [ht:TA P t n](k:Nat){c m off:Nat}{l:List AV}{g1:Prop}(hh:Jq G K x=some (.ptr c m off)∧M[k]? =some (c,m,l)∧Ve n (Vt off l) (fun r=>some (AV.agg r))=some (.agg r)∧JL ops jj=some tt∧K.lookup tt=some (.bool pol)∧Nat.ble (d+1) N=true)(h:To (SG j q h0 n0 X ((d,.agg r)::K) M (WR P G N ops rest R)) g1):To (SG (j+1) q h0 n0 X K M (WR P G N ops (⟨some d,.load t x,ty,pos,af,some (jj,pol)⟩::rest) R)) g1:=Eo hh.2.2.2.1 hh.2.2.2.2.1 hh.2.2.2.2.2 (fun st hM=>Qr hh.1 (hM.load hh.2.1 (Ji ht.h hh.2.2.1))) h
theorem W0{t:TypeId}{x y:Operand}{w:AV}{n:Nat} [hz:SZ P t n](k:Nat){c m off:Nat}{l l':List AV}{g1:Prop}(hh:Jq G K x=some (.ptr c m off)∧Jq G K y=some w∧M[k]? =some (c,m,l)∧(Jw w).length=n∧VV QI (Jw w)=true∧ZM (Jw w) off l=some l')(h:To (SG j (fun _=>True) h0 n0 X K (M.set k (c,m,l')) (WR P G N ops rest R)) g1):To (SG (j+1) (fun _=>True) h0 n0 X K M (WR P G N ops (⟨none,.store t x y,ty,pos,af,none⟩::rest) R)) g1:=
 fun h' T st hK _ hM=>Q5 (k:=k) hK hM hh.1 hh.2.1 hh.2.2.1 hz.h hh.2.2.2.1 hh.2.2.2.2.1 hh.2.2.2.2.2 fun st' hM'=>h h' T st' hK trivial hM'
theorem qS{t:TypeId}{l:List AV}{g:Nat→Prop} [hz:ZE P t l](hN:Nat.ble (d+1) N=true)(h: ∀c,To (SG j (fun _=>True) h0 n0 X ((d,.ptr c 0 0)::K) ((c,0,l)::M) (WR P G N ops rest R)) (g c)):To (SG (j+1) (fun _=>True) h0 n0 X K M (WR P G N ops (⟨some d,.alloc t,ty,pos,af,none⟩::rest) R)) (∀c,g c):=
 fun h' T st hK _ hM=>Ul hK hM hz.h (Nat.le_of_ble_eq_true hN) fun c T' st' hK' hM'=>h c (h' c) T' st' hK' trivial hM'
theorem yo{g:Prop}:To g g:=id
theorem qR{st0:St}{F:Tr AV→St→Prop}:To (SG j (fun s=>s=st0) h0 n0 X K M F) (∀T,QT K T→F T st0):=fun h T st hK hq hM=>hq▸h T hK
theorem au(j:Nat){F:Tr AV→St→Prop}{T:Tr AV}{st:St}(hK:QT K T)(hM:Mem h0 n0 X st M)(hn:g')(h:To (SG j (fun _=>True) h0 n0 X K M F) g':=by
 repeat' first
  |with_reducible refine' S7 ?_
  |with_reducible refine' ur ?_
  |with_reducible refine' jZ ?_
  |with_reducible refine' ub ?_
  |with_reducible refine' DE ?_
  |with_reducible refine' S8 ?_
  |with_reducible refine' DD ?_
  |with_reducible refine' Gt ?_
  |((with_reducible refine' SB ?_ ?_);any_goals exact⟨rfl,rfl⟩)
  |((with_reducible refine' M0 ?_ ?_);any_goals exact⟨rfl,rfl,rfl,rfl⟩)
  |((with_reducible refine' Gu ?_ ?_);any_goals exact⟨rfl,rfl⟩)
  |((with_reducible refine' Bs ?_ ?_);any_goals exact⟨rfl,rfl,rfl,rfl⟩)
  |((with_reducible refine' uk ?_ ?_);any_goals exact⟨rfl,rfl⟩)
  |((with_reducible refine' uO ?_ ?_);any_goals exact⟨rfl,rfl,rfl,rfl⟩)
  |((with_reducible refine' SA ?_ ?_);any_goals exact⟨rfl,rfl⟩)
  |((with_reducible refine' Mz ?_ ?_);any_goals exact⟨rfl,rfl,rfl,rfl⟩)
  |((with_reducible refine' uf ?_ ?_);any_goals exact⟨rfl,rfl,rfl⟩)
  |((with_reducible refine' uI ?_ ?_);any_goals exact⟨rfl,rfl,rfl,rfl,rfl⟩)
  |((with_reducible refine' uh ?_ ?_);any_goals exact⟨rfl,rfl,rfl⟩)
  |((with_reducible refine' uL ?_ ?_);any_goals exact⟨rfl,rfl,rfl,rfl,rfl⟩)
  |((with_reducible refine' ug ?_ ?_);any_goals exact⟨rfl,rfl,rfl⟩)
  |((with_reducible refine' uJ ?_ ?_);any_goals exact⟨rfl,rfl,rfl,rfl,rfl⟩)
  |((with_reducible refine' uj ?_ ?_);any_goals exact⟨rfl,rfl,rfl⟩)
  |((with_reducible refine' uM ?_ ?_);any_goals exact⟨rfl,rfl,rfl,rfl,rfl⟩)
  |((with_reducible refine' uq ?_ ?_);any_goals exact⟨rfl,rfl,rfl⟩)
  |((with_reducible refine' uR ?_ ?_);any_goals exact⟨rfl,rfl,rfl,rfl,rfl⟩)
  |((with_reducible refine' ud ?_ ?_);any_goals exact⟨rfl,rfl,rfl⟩)
  |((with_reducible refine' uH ?_ ?_);any_goals exact⟨rfl,rfl,rfl,rfl,rfl⟩)
  |((with_reducible refine' uo ?_ ?_);any_goals exact⟨rfl,rfl,rfl⟩)
  |((with_reducible refine' uQ ?_ ?_);any_goals exact⟨rfl,rfl,rfl,rfl,rfl⟩)
  |((with_reducible refine' uc ?_ ?_);any_goals exact⟨rfl,rfl,rfl⟩)
  |((with_reducible refine' uG ?_ ?_);any_goals exact⟨rfl,rfl,rfl,rfl,rfl⟩)
  |((with_reducible refine' ua ?_ ?_);any_goals exact⟨rfl,rfl⟩)
  |((with_reducible refine' uF ?_ ?_);any_goals exact⟨rfl,rfl,rfl,rfl⟩)
  |((with_reducible refine' S9 ?_ ?_);any_goals exact⟨rfl,rfl,rfl,rfl⟩)
  |((with_reducible refine' My ?_ ?_);any_goals exact⟨rfl,rfl,rfl,rfl,rfl,rfl⟩)
  |((with_reducible refine' um ?_ ?_);any_goals exact⟨rfl,rfl,rfl⟩)
  |((with_reducible refine' uP ?_ ?_);any_goals exact⟨rfl,rfl,rfl,rfl,rfl⟩)
  |((with_reducible refine' ZG 0 ?_ ?_);any_goals exact⟨rfl,rfl,rfl,rfl⟩)
  |((with_reducible refine' ZG 1 ?_ ?_);any_goals exact⟨rfl,rfl,rfl,rfl⟩)
  |((with_reducible refine' ZG 2 ?_ ?_);any_goals exact⟨rfl,rfl,rfl,rfl⟩)
  |((with_reducible refine' ZG 3 ?_ ?_);any_goals exact⟨rfl,rfl,rfl,rfl⟩)
  |((with_reducible refine' ZG 4 ?_ ?_);any_goals exact⟨rfl,rfl,rfl,rfl⟩)
  |((with_reducible refine' ZG 5 ?_ ?_);any_goals exact⟨rfl,rfl,rfl,rfl⟩)
  |((with_reducible refine' ZG 6 ?_ ?_);any_goals exact⟨rfl,rfl,rfl,rfl⟩)
  |((with_reducible refine' ZS 0 ?_ ?_);any_goals exact⟨rfl,rfl,rfl,rfl,rfl,rfl⟩)
  |((with_reducible refine' ZS 1 ?_ ?_);any_goals exact⟨rfl,rfl,rfl,rfl,rfl,rfl⟩)
  |((with_reducible refine' ZS 2 ?_ ?_);any_goals exact⟨rfl,rfl,rfl,rfl,rfl,rfl⟩)
  |((with_reducible refine' ZS 3 ?_ ?_);any_goals exact⟨rfl,rfl,rfl,rfl,rfl,rfl⟩)
  |((with_reducible refine' ZS 4 ?_ ?_);any_goals exact⟨rfl,rfl,rfl,rfl,rfl,rfl⟩)
  |((with_reducible refine' ZS 5 ?_ ?_);any_goals exact⟨rfl,rfl,rfl,rfl,rfl,rfl⟩)
  |((with_reducible refine' ZS 6 ?_ ?_);any_goals exact⟨rfl,rfl,rfl,rfl,rfl,rfl⟩)
  |((with_reducible refine' Yv 0 ?_ ?_);any_goals exact⟨rfl,rfl,rfl,rfl⟩)
  |((with_reducible refine' Yv 1 ?_ ?_);any_goals exact⟨rfl,rfl,rfl,rfl⟩)
  |((with_reducible refine' Yv 2 ?_ ?_);any_goals exact⟨rfl,rfl,rfl,rfl⟩)
  |((with_reducible refine' Yv 3 ?_ ?_);any_goals exact⟨rfl,rfl,rfl,rfl⟩)
  |((with_reducible refine' Yv 4 ?_ ?_);any_goals exact⟨rfl,rfl,rfl,rfl⟩)
  |((with_reducible refine' Yv 5 ?_ ?_);any_goals exact⟨rfl,rfl,rfl,rfl⟩)
  |((with_reducible refine' Yv 6 ?_ ?_);any_goals exact⟨rfl,rfl,rfl,rfl⟩)
  |((with_reducible refine' Yy 0 ?_ ?_);any_goals exact⟨rfl,rfl,rfl,rfl,rfl,rfl⟩)
  |((with_reducible refine' Yy 1 ?_ ?_);any_goals exact⟨rfl,rfl,rfl,rfl,rfl,rfl⟩)
  |((with_reducible refine' Yy 2 ?_ ?_);any_goals exact⟨rfl,rfl,rfl,rfl,rfl,rfl⟩)
  |((with_reducible refine' Yy 3 ?_ ?_);any_goals exact⟨rfl,rfl,rfl,rfl,rfl,rfl⟩)
  |((with_reducible refine' Yy 4 ?_ ?_);any_goals exact⟨rfl,rfl,rfl,rfl,rfl,rfl⟩)
  |((with_reducible refine' Yy 5 ?_ ?_);any_goals exact⟨rfl,rfl,rfl,rfl,rfl,rfl⟩)
  |((with_reducible refine' Yy 6 ?_ ?_);any_goals exact⟨rfl,rfl,rfl,rfl,rfl,rfl⟩)
  |((with_reducible refine' W0 0 ?_ ?_);any_goals exact⟨rfl,rfl,rfl,rfl,rfl,rfl⟩)
  |((with_reducible refine' W0 1 ?_ ?_);any_goals exact⟨rfl,rfl,rfl,rfl,rfl,rfl⟩)
  |((with_reducible refine' W0 2 ?_ ?_);any_goals exact⟨rfl,rfl,rfl,rfl,rfl,rfl⟩)
  |((with_reducible refine' W0 3 ?_ ?_);any_goals exact⟨rfl,rfl,rfl,rfl,rfl,rfl⟩)
  |((with_reducible refine' W0 4 ?_ ?_);any_goals exact⟨rfl,rfl,rfl,rfl,rfl,rfl⟩)
  |((with_reducible refine' W0 5 ?_ ?_);any_goals exact⟨rfl,rfl,rfl,rfl,rfl,rfl⟩)
  |((with_reducible refine' W0 6 ?_ ?_);any_goals exact⟨rfl,rfl,rfl,rfl,rfl,rfl⟩)
  |((with_reducible refine' zD ?_ ?_);any_goals exact⟨rfl,rfl,rfl,rfl⟩)
  |((with_reducible refine' ui ?_ ?_);any_goals exact⟨rfl,rfl,rfl⟩)
  |((with_reducible refine' qS ?_ fun _=>?_);any_goals exact rfl)
  |with_reducible exact yo):F T st:=h hn T st hK trivial hM
theorem Qf(j:Nat){F:Tr AV→St→Prop}{T:Tr AV}{st:St}(hK:QT K T)(hM:Mem h0 n0 X st M)(hn:g')(h:To (SG j (fun s=>s=st) h0 n0 X K M F) g':=by
 repeat' first
  |with_reducible refine' S7 ?_
  |with_reducible refine' ur ?_
  |with_reducible refine' jZ ?_
  |with_reducible refine' ub ?_
  |with_reducible refine' DE ?_
  |with_reducible refine' S8 ?_
  |with_reducible refine' DD ?_
  |with_reducible refine' Gt ?_
  |((with_reducible refine' SB ?_ ?_);any_goals exact⟨rfl,rfl⟩)
  |((with_reducible refine' M0 ?_ ?_);any_goals exact⟨rfl,rfl,rfl,rfl⟩)
  |((with_reducible refine' Gu ?_ ?_);any_goals exact⟨rfl,rfl⟩)
  |((with_reducible refine' Bs ?_ ?_);any_goals exact⟨rfl,rfl,rfl,rfl⟩)
  |((with_reducible refine' uk ?_ ?_);any_goals exact⟨rfl,rfl⟩)
  |((with_reducible refine' uO ?_ ?_);any_goals exact⟨rfl,rfl,rfl,rfl⟩)
  |((with_reducible refine' SA ?_ ?_);any_goals exact⟨rfl,rfl⟩)
  |((with_reducible refine' Mz ?_ ?_);any_goals exact⟨rfl,rfl,rfl,rfl⟩)
  |((with_reducible refine' uf ?_ ?_);any_goals exact⟨rfl,rfl,rfl⟩)
  |((with_reducible refine' uI ?_ ?_);any_goals exact⟨rfl,rfl,rfl,rfl,rfl⟩)
  |((with_reducible refine' uh ?_ ?_);any_goals exact⟨rfl,rfl,rfl⟩)
  |((with_reducible refine' uL ?_ ?_);any_goals exact⟨rfl,rfl,rfl,rfl,rfl⟩)
  |((with_reducible refine' ug ?_ ?_);any_goals exact⟨rfl,rfl,rfl⟩)
  |((with_reducible refine' uJ ?_ ?_);any_goals exact⟨rfl,rfl,rfl,rfl,rfl⟩)
  |((with_reducible refine' uj ?_ ?_);any_goals exact⟨rfl,rfl,rfl⟩)
  |((with_reducible refine' uM ?_ ?_);any_goals exact⟨rfl,rfl,rfl,rfl,rfl⟩)
  |((with_reducible refine' uq ?_ ?_);any_goals exact⟨rfl,rfl,rfl⟩)
  |((with_reducible refine' uR ?_ ?_);any_goals exact⟨rfl,rfl,rfl,rfl,rfl⟩)
  |((with_reducible refine' ud ?_ ?_);any_goals exact⟨rfl,rfl,rfl⟩)
  |((with_reducible refine' uH ?_ ?_);any_goals exact⟨rfl,rfl,rfl,rfl,rfl⟩)
  |((with_reducible refine' uo ?_ ?_);any_goals exact⟨rfl,rfl,rfl⟩)
  |((with_reducible refine' uQ ?_ ?_);any_goals exact⟨rfl,rfl,rfl,rfl,rfl⟩)
  |((with_reducible refine' uc ?_ ?_);any_goals exact⟨rfl,rfl,rfl⟩)
  |((with_reducible refine' uG ?_ ?_);any_goals exact⟨rfl,rfl,rfl,rfl,rfl⟩)
  |((with_reducible refine' ua ?_ ?_);any_goals exact⟨rfl,rfl⟩)
  |((with_reducible refine' uF ?_ ?_);any_goals exact⟨rfl,rfl,rfl,rfl⟩)
  |((with_reducible refine' S9 ?_ ?_);any_goals exact⟨rfl,rfl,rfl,rfl⟩)
  |((with_reducible refine' My ?_ ?_);any_goals exact⟨rfl,rfl,rfl,rfl,rfl,rfl⟩)
  |((with_reducible refine' um ?_ ?_);any_goals exact⟨rfl,rfl,rfl⟩)
  |((with_reducible refine' uP ?_ ?_);any_goals exact⟨rfl,rfl,rfl,rfl,rfl⟩)
  |((with_reducible refine' ZG 0 ?_ ?_);any_goals exact⟨rfl,rfl,rfl,rfl⟩)
  |((with_reducible refine' ZG 1 ?_ ?_);any_goals exact⟨rfl,rfl,rfl,rfl⟩)
  |((with_reducible refine' ZG 2 ?_ ?_);any_goals exact⟨rfl,rfl,rfl,rfl⟩)
  |((with_reducible refine' ZG 3 ?_ ?_);any_goals exact⟨rfl,rfl,rfl,rfl⟩)
  |((with_reducible refine' ZG 4 ?_ ?_);any_goals exact⟨rfl,rfl,rfl,rfl⟩)
  |((with_reducible refine' ZG 5 ?_ ?_);any_goals exact⟨rfl,rfl,rfl,rfl⟩)
  |((with_reducible refine' ZG 6 ?_ ?_);any_goals exact⟨rfl,rfl,rfl,rfl⟩)
  |((with_reducible refine' ZS 0 ?_ ?_);any_goals exact⟨rfl,rfl,rfl,rfl,rfl,rfl⟩)
  |((with_reducible refine' ZS 1 ?_ ?_);any_goals exact⟨rfl,rfl,rfl,rfl,rfl,rfl⟩)
  |((with_reducible refine' ZS 2 ?_ ?_);any_goals exact⟨rfl,rfl,rfl,rfl,rfl,rfl⟩)
  |((with_reducible refine' ZS 3 ?_ ?_);any_goals exact⟨rfl,rfl,rfl,rfl,rfl,rfl⟩)
  |((with_reducible refine' ZS 4 ?_ ?_);any_goals exact⟨rfl,rfl,rfl,rfl,rfl,rfl⟩)
  |((with_reducible refine' ZS 5 ?_ ?_);any_goals exact⟨rfl,rfl,rfl,rfl,rfl,rfl⟩)
  |((with_reducible refine' ZS 6 ?_ ?_);any_goals exact⟨rfl,rfl,rfl,rfl,rfl,rfl⟩)
  |((with_reducible refine' Yv 0 ?_ ?_);any_goals exact⟨rfl,rfl,rfl,rfl⟩)
  |((with_reducible refine' Yv 1 ?_ ?_);any_goals exact⟨rfl,rfl,rfl,rfl⟩)
  |((with_reducible refine' Yv 2 ?_ ?_);any_goals exact⟨rfl,rfl,rfl,rfl⟩)
  |((with_reducible refine' Yv 3 ?_ ?_);any_goals exact⟨rfl,rfl,rfl,rfl⟩)
  |((with_reducible refine' Yv 4 ?_ ?_);any_goals exact⟨rfl,rfl,rfl,rfl⟩)
  |((with_reducible refine' Yv 5 ?_ ?_);any_goals exact⟨rfl,rfl,rfl,rfl⟩)
  |((with_reducible refine' Yv 6 ?_ ?_);any_goals exact⟨rfl,rfl,rfl,rfl⟩)
  |((with_reducible refine' Yy 0 ?_ ?_);any_goals exact⟨rfl,rfl,rfl,rfl,rfl,rfl⟩)
  |((with_reducible refine' Yy 1 ?_ ?_);any_goals exact⟨rfl,rfl,rfl,rfl,rfl,rfl⟩)
  |((with_reducible refine' Yy 2 ?_ ?_);any_goals exact⟨rfl,rfl,rfl,rfl,rfl,rfl⟩)
  |((with_reducible refine' Yy 3 ?_ ?_);any_goals exact⟨rfl,rfl,rfl,rfl,rfl,rfl⟩)
  |((with_reducible refine' Yy 4 ?_ ?_);any_goals exact⟨rfl,rfl,rfl,rfl,rfl,rfl⟩)
  |((with_reducible refine' Yy 5 ?_ ?_);any_goals exact⟨rfl,rfl,rfl,rfl,rfl,rfl⟩)
  |((with_reducible refine' Yy 6 ?_ ?_);any_goals exact⟨rfl,rfl,rfl,rfl,rfl,rfl⟩)
  |((with_reducible refine' zD ?_ ?_);any_goals exact⟨rfl,rfl,rfl,rfl⟩)
  |((with_reducible refine' ui ?_ ?_);any_goals exact⟨rfl,rfl,rfl⟩)
  |with_reducible exact qR):F T st:=h hn T st hK rfl hM
end
section
variable {P:Program} {G:Env} {N:Nat} {h0:Hp} {n0:Nat} {X:List Nat} {K:List (Nat×AV)} {M:List (Nat×Nat×List AV)} {ops rest:List Oper} {R:Tr AV→St→Prop} {Q:Ex→Tr AV→St→Prop} {d:Nat} {ty:TypeId} {pos:String} {af:Array Edge} {T:Tr AV} {st:St}
theorem Xo{g:Operand}{a b:Code}{p:Prop} [Decidable p](hK:QT K T)(hg:Jq G K g=some (.bool (decide p)))(ha:p→W P G N a Q T st)(hb: ¬p→W P G N b Q T st):W P G N (.cond g a b) Q T st:=Qm (hK.QF hg) (fun h=>ha (of_decide_eq_true h)) fun h=>hb (of_decide_eq_false h)
theorem P4{g:Operand}{a b:Code}{p:Prop} [Decidable p](hK:QT K T)(hg:Jq G K g=some (.bool (!decide p)))(ha: ¬p→W P G N a Q T st)(hb:p→W P G N b Q T st):W P G N (.cond g a b) Q T st:=Qm (hK.QF hg) (fun h=>ha (by simpa using h)) fun h=>hb (by simpa using h)
theorem oQ{f:FuncId}{args:Array Operand}{tys:Array TypeId}{l:List AV}{u:AV}(hK:QT K T)(hM:Mem h0 n0 X st M)(h: ∃v st',Ev P G f l st v st'∧v=u∧Qt st st')(ha:JW (Jq G K) args.toList=some l)(hN:Nat.ble (d+1) N=true)(hn: ∀T' st',QT ((d,u)::K) T'→Mem h0 n0 X st' M→WR P G N ops rest R T' st'):
  WR P G N ops (⟨some d,.call {callee:=.value (.func f),args:=args,argTypes:=tys},ty,pos,af,none⟩::rest) R T st:=by
 obtain⟨v,st',ev,rfl,q⟩:=h;exact o1 hK (Ql ha ev) hN fun T' hK'=>hn T' st' hK' (hM.quiet q)
theorem oR{f:FuncId}{args:Array Operand}{tys:Array TypeId}{l:List AV}{u:AV}(k:Nat){c m m':Nat}{r r':List AV}(hK:QT K T)(hM:Mem h0 n0 X st M)(h: ∃v st',Ev P G f l st v st'∧v=u∧Si [c] st st'∧UC st'.h.get c m' r')(hk:M[k]? =some (c,m,r))(ha:JW (Jq G K) args.toList=some l)(hN:Nat.ble (d+1) N=true)(hn: ∀T' st',QT ((d,u)::K) T'→Mem h0 n0 X st' (M.set k (c,m',r'))→WR P G N ops rest R T' st'):
  WR P G N ops (⟨some d,.call {callee:=.value (.func f),args:=args,argTypes:=tys},ty,pos,af,none⟩::rest) R T st:=by
 obtain⟨v,st',ev,rfl,q,w⟩:=h;exact o1 hK (Ql ha ev) hN fun T' hK'=>hn T' st' hK' (hM.BO hk q w)
theorem QE{f:FuncId}{fn:Func}{c:Code}{N:Nat}{rs:List ResultVar}{args:List AV}{Q:AV→St→Prop}(hs:G.s f=none)(hf:P.funcs[f]? =some fn)(hb:fn.body=some c)(hN:fn.ntmps=N)(hr:fn.results.toList=rs)
 (h: ∀T,(∀t,UH T t=(args[t]?).getD (.tup []))→W P G N c (fun x T st=>(x=.nor∨x=.ret)∧ ∃v,Jl P rs T st=some v∧Q v st) T st) (hname:(fn.name== "runtime.NumGoroutine")=false:=by decide) (hl:args.length≤N:=by simp): ∃v st',Ev P G f args st v st'∧Q v st':=uS hs hf hb hN hr hname hl h
theorem J5{t:Nat}{v:AV}(hK:QT K T)(h:K.lookup t=some v):Jl P [.tmp t] T st=some v:=Fy (Js hK h)
theorem Wy{t s:Nat}{u v:AV}(hK:QT K T)(h:K.lookup t=some u)(h':K.lookup s=some v):Jl P [.tmp t,.tmp s] T st=some (.tup [u,v]):=YJ (Js hK h) (Js hK h')
theorem Iy{a n:Nat}{t:TypeId}{l r:List AV} [ht:TA P t n](k:Nat){c m off:Nat}(hK:QT K T)(hM:Mem h0 n0 X st M)(h:K.lookup a=some (.ptr c m off))(hk:M[k]? =some (c,m,l))(hl:Ve n (Vt off l) (fun r=>some (AV.agg r))=some (.agg r)):Jl P [.cell a t] T st=some (.agg r):=Fy (Yc hK h (hM.load hk (Ji ht.h hl)))
end
end Go.Proofs.YtadjjadimlkkgaaGreatDoor
