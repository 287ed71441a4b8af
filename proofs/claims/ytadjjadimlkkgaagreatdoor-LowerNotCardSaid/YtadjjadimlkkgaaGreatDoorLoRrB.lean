/-
  Straight runs of operations in one step.
-/
import Derived.Test.YtadjjadimlkkgaaGreatDoorLoTyg
set_option maxHeartbeats 8000000
set_option maxRecDepth 100000
set_option linter.unusedSectionVars false
set_option linter.unusedVariables false
section
namespace Go.Proofs.YtadjjadimlkkgaaGreatDoor
open Go Go.RowKit

class FO(P:Program)(t:TypeId)(f:Nat)(o:outParam Nat):Prop where
 h:Jh P t f=some o
class T1(P:Program)(t:TypeId):Prop where
 h:tk P t=.one
class TA(P:Program)(t:TypeId)(n:outParam Nat):Prop where
 h:tk P t=.agg n
class ZE(P:Program)(t:TypeId)(l:outParam (List AV)):Prop where
 h:zeroOf P t=some l
instance :FO Tryz.prog 26 0 0:=⟨VE⟩
instance :FO Tryz.prog 26 1 1:=⟨E8⟩
instance :FO Tryz.prog 26 2 2:=⟨E7⟩
instance :FO Tryz.prog 26 3 3:=⟨E6⟩
instance :FO Tryz.prog 26 4 4:=⟨Ht⟩
instance :FO Tryz.prog 28 0 0:=⟨X0⟩
instance :FO Tryz.prog 28 1 1:=⟨Xz⟩
instance :FO Tryz.prog 28 2 2:=⟨E4⟩
instance :FO Tryz.prog 69 0 0:=⟨O0⟩
instance :FO Tryz.prog 69 1 1:=⟨E5⟩
instance :FO Tryz.prog 69 2 2:=⟨Hs⟩
instance :FO Tryz.prog 69 3 7:=⟨Oz⟩
instance :FO Tryz.prog 102 0 0:=⟨E9⟩
instance :FO Tryz.prog 102 1 1:=⟨Hu⟩
instance :FO Tryz.prog 102 2 2:=⟨O1⟩
instance :FO Tryz.prog 75 0 0:=⟨WV⟩
instance :FO Tryz.prog 75 1 1:=⟨Vj⟩
instance :FO Tryz.prog 75 2 2:=⟨WU⟩
instance :FO Tryz.prog 75 3 3:=⟨JD⟩
instance :FO Tryz.prog 118 0 0:=⟨Vu⟩
instance :FO Tryz.prog 118 1 1:=⟨J6⟩
instance :FO Tryz.prog 118 2 2:=⟨ZB⟩
instance :FO Tryz.prog 118 3 3:=⟨Jq⟩
instance :FO Tryz.prog 66 0 0:=⟨YE⟩
instance :FO Tryz.prog 66 1 1:=⟨YD⟩
instance :FO Tryz.prog 66 2 2:=⟨Yd⟩
instance :FO Tryz.prog 66 3 3:=⟨Yc⟩
instance :FO Tryz.prog 154 0 0:=⟨VD⟩
instance :FO Tryz.prog 154 1 1:=⟨Hr⟩
instance :FO Tryz.prog 47 0 0:=⟨O6⟩
instance :FO Tryz.prog 47 1 1:=⟨O5⟩
instance :FO Tryz.prog 47 2 2:=⟨O4⟩
instance :FO Tryz.prog 47 3 3:=⟨O3⟩
instance :FO Tryz.prog 47 4 4:=⟨O2⟩
instance :FO Tryz.prog 47 5 5:=⟨EA⟩
instance :FO Tryz.prog 81 0 0:=⟨XG⟩
instance :FO Tryz.prog 100 0 0:=⟨XF⟩
instance :FO Tryz.prog 100 1 1:=⟨Ic⟩
instance :FO Tryz.prog 198 0 0:=⟨Lt⟩
instance :FO Tryz.prog 198 1 1:=⟨Ls⟩
instance :T1 Tryz.prog 3:=⟨QI⟩
instance :T1 Tryz.prog 4:=⟨jJ⟩
instance :T1 Tryz.prog 9:=⟨JI⟩
instance :T1 Tryz.prog 21:=⟨I1⟩
instance :T1 Tryz.prog 24:=⟨Hk⟩
instance :TA Tryz.prog 26 5:=⟨QO⟩
instance :T1 Tryz.prog 22:=⟨Y5⟩
instance :T1 Tryz.prog 23:=⟨Yi⟩
instance :TA Tryz.prog 28 7:=⟨Y4⟩
instance :TA Tryz.prog 69 8:=⟨Ei⟩
instance :T1 Tryz.prog 41:=⟨VK⟩
instance :TA Tryz.prog 102 3:=⟨VJ⟩
instance :T1 Tryz.prog 61:=⟨XW⟩
instance :TA Tryz.prog 75 4:=⟨UF⟩
instance :T1 Tryz.prog 116:=⟨UA⟩
instance :T1 Tryz.prog 45:=⟨Ew⟩
instance :TA Tryz.prog 47 6:=⟨J3⟩
instance :T1 Tryz.prog 98:=⟨W8⟩
instance :TA Tryz.prog 164 2:=⟨Km⟩
instance :T1 Tryz.prog 190:=⟨X2⟩
instance :TA Tryz.prog 198 7:=⟨Hj⟩
instance :ZE Tryz.prog 3 [.int .i64 0]:=⟨D2⟩
instance :ZE Tryz.prog 5 [.int .u8 0]:=⟨AT⟩
instance :ZE Tryz.prog 9 [.str []]:=⟨XK⟩
instance :ZE Tryz.prog 26 [.str [],.str [],.int .i64 0,.int .i64 0,.nils]:=⟨QN⟩
instance :ZE Tryz.prog 28 [.nils,.nils,.str [],.str [],.int .i64 0,.int .i64 0,.nils]:=⟨KK⟩
instance :ZE Tryz.prog 69 [.str [],.nils,.str [],.str [],.int .i64 0,.int .i64 0,.nils,.int .i64 0]:=⟨ZQ⟩
instance :ZE Tryz.prog 102 [.str [],.int .i64 0,.int .i64 0]:=⟨Ym⟩
instance :ZE Tryz.prog 75 [.int .i64 0,.str [],.int .i64 0,.int .i64 0]:=⟨Zq⟩
instance :ZE Tryz.prog 118 [.str [],.nils,.int .i64 0,.int .i64 0]:=⟨Wj⟩
instance :ZE Tryz.prog 66 [.nils,.int .i64 0,.int .i64 0,.int .i64 0]:=⟨Wi⟩
instance :ZE Tryz.prog 47 [.str [],.int .i64 0,.int .i64 0,.int .i64 0,.int .i64 0,.nils]:=⟨UW⟩
instance :ZE Tryz.prog 81 [.nils]:=⟨EJ⟩
instance :ZE Tryz.prog 100 [.nils,.bool false]:=⟨EI⟩
instance :ZE Tryz.prog 164 [.int .i64 0,.int .i64 0]:=⟨Ww⟩
instance :ZE Tryz.prog 190 [.nils]:=⟨Lm⟩
instance :ZE Tryz.prog 198 [.int .i64 0,.str [],.int .i64 0,.int .i64 0,.int .i64 0,.int .i64 0,.nils]:=⟨V6⟩
class SZ(P:Program)(t:TypeId)(n:outParam Nat):Prop where
 h:Zm P t=some n
instance :SZ Tryz.prog 3 1:=⟨DD⟩
instance :SZ Tryz.prog 4 1:=⟨jO⟩
instance :SZ Tryz.prog 9 1:=⟨OJ⟩
instance :SZ Tryz.prog 24 1:=⟨Ot⟩
instance :SZ Tryz.prog 26 5:=⟨QH⟩
instance :SZ Tryz.prog 22 1:=⟨V9⟩
instance :SZ Tryz.prog 23 1:=⟨V8⟩
instance :SZ Tryz.prog 28 7:=⟨Yn⟩
instance :SZ Tryz.prog 69 8:=⟨Fa⟩
instance :SZ Tryz.prog 41 1:=⟨Ej⟩
instance :SZ Tryz.prog 102 3:=⟨BJ⟩
instance :SZ Tryz.prog 75 4:=⟨An⟩
instance :SZ Tryz.prog 116 1:=⟨Hl⟩
instance :SZ Tryz.prog 47 6:=⟨QP⟩
instance :SZ Tryz.prog 164 2:=⟨RU⟩
instance :SZ Tryz.prog 190 1:=⟨AO⟩
instance :SZ Tryz.prog 198 7:=⟨Oq⟩
def SG(j:Nat)(q:St→Prop)(h0:Hp)(n0:Nat)(X:List Nat)(K:List (Nat×AV))(M:List (Nat×Nat×List AV))(F:Tr AV→St→Prop):Prop:= ∀T st,Jm K T→q st→Mem h0 n0 X st M→F T st
def To(g g':Prop):Prop:=g'→g
section
variable {j:Nat} {q:St→Prop} {P:Program} {G:Env} {N:Nat} {h0:Hp} {n0:Nat} {X:List Nat} {K:List (Nat×AV)} {M:List (Nat×Nat×List AV)} {g':Prop} {ops rest:List Oper} {R:Tr AV→St→Prop} {Q:Ex→Tr AV→St→Prop} {d:Nat} {ty:TypeId} {pos:String} {af:Array Edge}
theorem TW{k:Tr AV→St→Prop}(h:To (SG j q h0 n0 X K M k) g'):To (SG j q h0 n0 X K M (OE k Q .nor)) g':=h
theorem y0{id:Nat}(h:To (SG j q h0 n0 X K M (Q .nor)) g'):To (SG j q h0 n0 X K M (PD id Q .nor)) g':=h
theorem yl{a b:Code}(h:To (SG j q h0 n0 X K M (W P G N a (OE (W P G N b Q) Q))) g'):To (SG j q h0 n0 X K M (W P G N (.seq a b) Q)) g':=fun h' T st hK hq hM=>Qq (h h' T st hK hq hM)
theorem Rh{id:Nat}{c:Code}(h:To (SG j q h0 n0 X K M (W P G N c (PD id Q))) g'):To (SG j q h0 n0 X K M (W P G N (.block id c) Q)) g':=fun h' T st hK hq hM=>Uw (h h' T st hK hq hM)
theorem TX(h:To (SG j q h0 n0 X K M (Q .nor)) g'):To (SG j q h0 n0 X K M (W P G N .skip Q)) g':=fun h' T st hK hq hM=>QT (h h' T st hK hq hM)
theorem Rf{l:Nat}(h:To (SG j q h0 n0 X K M (Q .nor)) g'):To (SG j q h0 n0 X K M (W P G N (.label l) Q)) g':=fun h' T st hK hq hM=>jH (h h' T st hK hq hM)
theorem BH{id:Nat}{l:List Oper}(h:To (SG j q h0 n0 X K M (WR P G N l l (Q .nor))) g'):To (SG j q h0 n0 X K M (W P G N (.region id l.toArray false) Q)) g':=fun h' T st hK hq hM=>Qh (h h' T st hK hq hM)
theorem yn(h:To (SG j q h0 n0 X K M R) g'):To (SG j q h0 n0 X K M (WR P G N ops [] R)) g':=fun h' T st hK hq hM=>Q5 (h h' T st hK hq hM)
theorem AY{op:Op}{v:AV}(hN:Nat.ble (d+1) N=true)(ho: ∀st,Mem h0 n0 X st M→ZP P G K op st v st)(h:To (SG j q h0 n0 X ((d,v)::K) M (WR P G N ops rest R)) g'):To (SG (j+1) q h0 n0 X K M (WR P G N ops (⟨some d,op,ty,pos,af,none⟩::rest) R)) g':=
 fun h' T st hK hq hM=>o1 hK (ho st hM) hN fun T' hK'=>h h' T' st hK' hq hM
theorem AZ{jj tt:Nat}{pol:Bool}{op:Op}{v:AV}{g1:Prop}(hd:UM ops jj=some tt)(hb:K.lookup tt=some (.bool pol))(hN:Nat.ble (d+1) N=true)(ho: ∀st,Mem h0 n0 X st M→ZP P G K op st v st)(h:To (SG j q h0 n0 X ((d,v)::K) M (WR P G N ops rest R)) g1):To (SG (j+1) q h0 n0 X K M (WR P G N ops (⟨some d,op,ty,pos,af,some (jj,pol)⟩::rest) R)) g1:=
 fun h' T st hK hq hM=>og hK hd hb (ho st hM) hN fun T' hK'=>h h' T' st hK' hq hM
theorem zW{jj tt:Nat}{b pol:Bool}{op:Op}{g1:Prop}(hh:UM ops jj=some tt∧K.lookup tt=some (.bool b)∧(b==pol)=false∧Nat.ble (d+1) N=true)(h:To (SG j q h0 n0 X ((d,.tup [])::K) M (WR P G N ops rest R)) g1):To (SG (j+1) q h0 n0 X K M (WR P G N ops (⟨some d,op,ty,pos,af,some (jj,pol)⟩::rest) R)) g1:=
 fun h' T st hK hq hM=>gn hK hh.1 hh.2.1 hh.2.2.1 hh.2.2.2 fun T' hK'=>h h' T' st hK' hq hM
theorem yu{jj tt:Nat}{pol:Bool}{op:Op}{g1:Prop}(hh:UM ops jj=some tt∧K.lookup tt=some (.tup [])∧Nat.ble (d+1) N=true)(h:To (SG j q h0 n0 X ((d,.tup [])::K) M (WR P G N ops rest R)) g1):To (SG (j+1) q h0 n0 X K M (WR P G N ops (⟨some d,op,ty,pos,af,some (jj,pol)⟩::rest) R)) g1:=
 fun h' T st hK hq hM=>vi hK hh.1 hh.2.1 hh.2.2 fun T' hK'=>h h' T' st hK' hq hM
theorem Ma{x:Operand}{v:AV}{g1:Prop}(hh:JS G K x=some v∧Nat.ble (d+1) N=true)(h:To (SG j q h0 n0 X ((d,v)::K) M (WR P G N ops rest R)) g1):To (SG (j+1) q h0 n0 X K M (WR P G N ops (⟨some d,.move x,ty,pos,af,none⟩::rest) R)) g1:=AY hh.2 (fun st hM=>Qb hh.1) h
theorem qx{jj tt:Nat}{pol:Bool}{x:Operand}{v:AV}{g1:Prop}(hh:JS G K x=some v∧UM ops jj=some tt∧K.lookup tt=some (.bool pol)∧Nat.ble (d+1) N=true)(h:To (SG j q h0 n0 X ((d,v)::K) M (WR P G N ops rest R)) g1):To (SG (j+1) q h0 n0 X K M (WR P G N ops (⟨some d,.move x,ty,pos,af,some (jj,pol)⟩::rest) R)) g1:=AZ hh.2.1 hh.2.2.1 hh.2.2.2 (fun st hM=>Qb hh.1) h
theorem BI{x:Operand}{v:AV}{g1:Prop}(hh:JS G K x=some v∧Nat.ble (d+1) N=true)(h:To (SG j q h0 n0 X ((d,v)::K) M (WR P G N ops rest R)) g1):To (SG (j+1) q h0 n0 X K M (WR P G N ops (⟨some d,.assign x,ty,pos,af,none⟩::rest) R)) g1:=AY hh.2 (fun st hM=>QM hh.1) h
theorem CB{jj tt:Nat}{pol:Bool}{x:Operand}{v:AV}{g1:Prop}(hh:JS G K x=some v∧UM ops jj=some tt∧K.lookup tt=some (.bool pol)∧Nat.ble (d+1) N=true)(h:To (SG j q h0 n0 X ((d,v)::K) M (WR P G N ops rest R)) g1):To (SG (j+1) q h0 n0 X K M (WR P G N ops (⟨some d,.assign x,ty,pos,af,some (jj,pol)⟩::rest) R)) g1:=AZ hh.2.1 hh.2.2.1 hh.2.2.2 (fun st hM=>QM hh.1) h
theorem yw{t:TypeId}{x:Operand}{f c m off o:Nat} [ho:FO P t f o]{g1:Prop}(hh:JS G K x=some (.ptr c m off)∧Nat.ble (d+1) N=true)(h:To (SG j q h0 n0 X ((d,.ptr c m (off+o))::K) M (WR P G N ops rest R)) g1):To (SG (j+1) q h0 n0 X K M (WR P G N ops (⟨some d,.fieldAddr t x f,ty,pos,af,none⟩::rest) R)) g1:=AY hh.2 (fun st hM=>Qf ho.h hh.1) h
theorem yK{jj tt:Nat}{pol:Bool}{t:TypeId}{x:Operand}{f c m off o:Nat} [ho:FO P t f o]{g1:Prop}(hh:JS G K x=some (.ptr c m off)∧UM ops jj=some tt∧K.lookup tt=some (.bool pol)∧Nat.ble (d+1) N=true)(h:To (SG j q h0 n0 X ((d,.ptr c m (off+o))::K) M (WR P G N ops rest R)) g1):To (SG (j+1) q h0 n0 X K M (WR P G N ops (⟨some d,.fieldAddr t x f,ty,pos,af,some (jj,pol)⟩::rest) R)) g1:=AZ hh.2.1 hh.2.2.1 hh.2.2.2 (fun st hM=>Qf ho.h hh.1) h
theorem TZ{x:Operand}{c m off:Nat}{g1:Prop}(hh:JS G K x=some (.ptr c m off)∧Nat.ble (d+1) N=true)(h:To (SG j q h0 n0 X ((d,.ptr c m off)::K) M (WR P G N ops rest R)) g1):To (SG (j+1) q h0 n0 X K M (WR P G N ops (⟨some d,.nilCheck x,ty,pos,af,none⟩::rest) R)) g1:=AY hh.2 (fun st hM=>JN hh.1 rfl) h
theorem qw{jj tt:Nat}{pol:Bool}{x:Operand}{c m off:Nat}{g1:Prop}(hh:JS G K x=some (.ptr c m off)∧UM ops jj=some tt∧K.lookup tt=some (.bool pol)∧Nat.ble (d+1) N=true)(h:To (SG j q h0 n0 X ((d,.ptr c m off)::K) M (WR P G N ops rest R)) g1):To (SG (j+1) q h0 n0 X K M (WR P G N ops (⟨some d,.nilCheck x,ty,pos,af,some (jj,pol)⟩::rest) R)) g1:=AZ hh.2.1 hh.2.2.1 hh.2.2.2 (fun st hM=>JN hh.1 rfl) h
theorem yq{t yt:TypeId}{x y:Operand}{k:IntKind}{a b:Int}{g1:Prop}(hh:JS G K x=some (.int k a)∧JS G K y=some (.int k b)∧Nat.ble (d+1) N=true)(h:To (SG j q h0 n0 X ((d,.bool (decide (a<b)))::K) M (WR P G N ops rest R)) g1):To (SG (j+1) q h0 n0 X K M (WR P G N ops (⟨some d,.binOp .lss t x y yt,ty,pos,af,none⟩::rest) R)) g1:=AY hh.2.2 (fun st hM=>Nr hh.1 hh.2.1) h
theorem yG{jj tt:Nat}{pol:Bool}{t yt:TypeId}{x y:Operand}{k:IntKind}{a b:Int}{g1:Prop}(hh:JS G K x=some (.int k a)∧JS G K y=some (.int k b)∧UM ops jj=some tt∧K.lookup tt=some (.bool pol)∧Nat.ble (d+1) N=true)(h:To (SG j q h0 n0 X ((d,.bool (decide (a<b)))::K) M (WR P G N ops rest R)) g1):To (SG (j+1) q h0 n0 X K M (WR P G N ops (⟨some d,.binOp .lss t x y yt,ty,pos,af,some (jj,pol)⟩::rest) R)) g1:=AZ hh.2.2.1 hh.2.2.2.1 hh.2.2.2.2 (fun st hM=>Nr hh.1 hh.2.1) h
theorem ys{t yt:TypeId}{x y:Operand}{k:IntKind}{a b:Int}{g1:Prop}(hh:JS G K x=some (.int k a)∧JS G K y=some (.int k b)∧Nat.ble (d+1) N=true)(h:To (SG j q h0 n0 X ((d,.bool (decide (b<a)))::K) M (WR P G N ops rest R)) g1):To (SG (j+1) q h0 n0 X K M (WR P G N ops (⟨some d,.binOp .gtr t x y yt,ty,pos,af,none⟩::rest) R)) g1:=AY hh.2.2 (fun st hM=>DV hh.1 hh.2.1) h
theorem yI{jj tt:Nat}{pol:Bool}{t yt:TypeId}{x y:Operand}{k:IntKind}{a b:Int}{g1:Prop}(hh:JS G K x=some (.int k a)∧JS G K y=some (.int k b)∧UM ops jj=some tt∧K.lookup tt=some (.bool pol)∧Nat.ble (d+1) N=true)(h:To (SG j q h0 n0 X ((d,.bool (decide (b<a)))::K) M (WR P G N ops rest R)) g1):To (SG (j+1) q h0 n0 X K M (WR P G N ops (⟨some d,.binOp .gtr t x y yt,ty,pos,af,some (jj,pol)⟩::rest) R)) g1:=AZ hh.2.2.1 hh.2.2.2.1 hh.2.2.2.2 (fun st hM=>DV hh.1 hh.2.1) h
theorem yr{t yt:TypeId}{x y:Operand}{k:IntKind}{a b:Int}{g1:Prop}(hh:JS G K x=some (.int k a)∧JS G K y=some (.int k b)∧Nat.ble (d+1) N=true)(h:To (SG j q h0 n0 X ((d,.bool (decide (a≤b)))::K) M (WR P G N ops rest R)) g1):To (SG (j+1) q h0 n0 X K M (WR P G N ops (⟨some d,.binOp .leq t x y yt,ty,pos,af,none⟩::rest) R)) g1:=AY hh.2.2 (fun st hM=>DU hh.1 hh.2.1) h
theorem yH{jj tt:Nat}{pol:Bool}{t yt:TypeId}{x y:Operand}{k:IntKind}{a b:Int}{g1:Prop}(hh:JS G K x=some (.int k a)∧JS G K y=some (.int k b)∧UM ops jj=some tt∧K.lookup tt=some (.bool pol)∧Nat.ble (d+1) N=true)(h:To (SG j q h0 n0 X ((d,.bool (decide (a≤b)))::K) M (WR P G N ops rest R)) g1):To (SG (j+1) q h0 n0 X K M (WR P G N ops (⟨some d,.binOp .leq t x y yt,ty,pos,af,some (jj,pol)⟩::rest) R)) g1:=AZ hh.2.2.1 hh.2.2.2.1 hh.2.2.2.2 (fun st hM=>DU hh.1 hh.2.1) h
theorem yv{t yt:TypeId}{x y:Operand}{k:IntKind}{a b:Int}{g1:Prop}(hh:JS G K x=some (.int k a)∧JS G K y=some (.int k b)∧Nat.ble (d+1) N=true)(h:To (SG j q h0 n0 X ((d,.bool (decide (b≤a)))::K) M (WR P G N ops rest R)) g1):To (SG (j+1) q h0 n0 X K M (WR P G N ops (⟨some d,.binOp .geq t x y yt,ty,pos,af,none⟩::rest) R)) g1:=AY hh.2.2 (fun st hM=>HG hh.1 hh.2.1) h
theorem yJ{jj tt:Nat}{pol:Bool}{t yt:TypeId}{x y:Operand}{k:IntKind}{a b:Int}{g1:Prop}(hh:JS G K x=some (.int k a)∧JS G K y=some (.int k b)∧UM ops jj=some tt∧K.lookup tt=some (.bool pol)∧Nat.ble (d+1) N=true)(h:To (SG j q h0 n0 X ((d,.bool (decide (b≤a)))::K) M (WR P G N ops rest R)) g1):To (SG (j+1) q h0 n0 X K M (WR P G N ops (⟨some d,.binOp .geq t x y yt,ty,pos,af,some (jj,pol)⟩::rest) R)) g1:=AZ hh.2.2.1 hh.2.2.2.1 hh.2.2.2.2 (fun st hM=>HG hh.1 hh.2.1) h
theorem yz{t yt:TypeId}{x y:Operand}{k:IntKind}{a b:Int}{g1:Prop}(hh:JS G K x=some (.int k a)∧JS G K y=some (.int k b)∧Nat.ble (d+1) N=true)(h:To (SG j q h0 n0 X ((d,.bool (decide (a=b)))::K) M (WR P G N ops rest R)) g1):To (SG (j+1) q h0 n0 X K M (WR P G N ops (⟨some d,.binOp .eql t x y yt,ty,pos,af,none⟩::rest) R)) g1:=AY hh.2.2 (fun st hM=>Fm hh.1 hh.2.1) h
theorem yN{jj tt:Nat}{pol:Bool}{t yt:TypeId}{x y:Operand}{k:IntKind}{a b:Int}{g1:Prop}(hh:JS G K x=some (.int k a)∧JS G K y=some (.int k b)∧UM ops jj=some tt∧K.lookup tt=some (.bool pol)∧Nat.ble (d+1) N=true)(h:To (SG j q h0 n0 X ((d,.bool (decide (a=b)))::K) M (WR P G N ops rest R)) g1):To (SG (j+1) q h0 n0 X K M (WR P G N ops (⟨some d,.binOp .eql t x y yt,ty,pos,af,some (jj,pol)⟩::rest) R)) g1:=AZ hh.2.2.1 hh.2.2.2.1 hh.2.2.2.2 (fun st hM=>Fm hh.1 hh.2.1) h
theorem yp{t yt:TypeId}{x y:Operand}{k:IntKind}{a b:Int}{g1:Prop}(hh:JS G K x=some (.int k a)∧JS G K y=some (.int k b)∧Nat.ble (d+1) N=true)(h:To (SG j q h0 n0 X ((d,.bool (!decide (a=b)))::K) M (WR P G N ops rest R)) g1):To (SG (j+1) q h0 n0 X K M (WR P G N ops (⟨some d,.binOp .neq t x y yt,ty,pos,af,none⟩::rest) R)) g1:=AY hh.2.2 (fun st hM=>MD hh.1 hh.2.1) h
theorem yF{jj tt:Nat}{pol:Bool}{t yt:TypeId}{x y:Operand}{k:IntKind}{a b:Int}{g1:Prop}(hh:JS G K x=some (.int k a)∧JS G K y=some (.int k b)∧UM ops jj=some tt∧K.lookup tt=some (.bool pol)∧Nat.ble (d+1) N=true)(h:To (SG j q h0 n0 X ((d,.bool (!decide (a=b)))::K) M (WR P G N ops rest R)) g1):To (SG (j+1) q h0 n0 X K M (WR P G N ops (⟨some d,.binOp .neq t x y yt,ty,pos,af,some (jj,pol)⟩::rest) R)) g1:=AZ hh.2.2.1 hh.2.2.2.1 hh.2.2.2.2 (fun st hM=>MD hh.1 hh.2.1) h
theorem yy{t yt:TypeId}{x y:Operand}{a b:List Nat}{g1:Prop}(hh:JS G K x=some (.str a)∧JS G K y=some (.str b)∧Nat.ble (d+1) N=true)(h:To (SG j q h0 n0 X ((d,.bool (decide (a=b)))::K) M (WR P G N ops rest R)) g1):To (SG (j+1) q h0 n0 X K M (WR P G N ops (⟨some d,.binOp .eql t x y yt,ty,pos,af,none⟩::rest) R)) g1:=AY hh.2.2 (fun st hM=>QV hh.1 hh.2.1) h
theorem yM{jj tt:Nat}{pol:Bool}{t yt:TypeId}{x y:Operand}{a b:List Nat}{g1:Prop}(hh:JS G K x=some (.str a)∧JS G K y=some (.str b)∧UM ops jj=some tt∧K.lookup tt=some (.bool pol)∧Nat.ble (d+1) N=true)(h:To (SG j q h0 n0 X ((d,.bool (decide (a=b)))::K) M (WR P G N ops rest R)) g1):To (SG (j+1) q h0 n0 X K M (WR P G N ops (⟨some d,.binOp .eql t x y yt,ty,pos,af,some (jj,pol)⟩::rest) R)) g1:=AZ hh.2.2.1 hh.2.2.2.1 hh.2.2.2.2 (fun st hM=>QV hh.1 hh.2.1) h
theorem yo{t yt:TypeId}{x y:Operand}{a b:List Nat}{g1:Prop}(hh:JS G K x=some (.str a)∧JS G K y=some (.str b)∧Nat.ble (d+1) N=true)(h:To (SG j q h0 n0 X ((d,.bool (!decide (a=b)))::K) M (WR P G N ops rest R)) g1):To (SG (j+1) q h0 n0 X K M (WR P G N ops (⟨some d,.binOp .neq t x y yt,ty,pos,af,none⟩::rest) R)) g1:=AY hh.2.2 (fun st hM=>V1 hh.1 hh.2.1) h
theorem yE{jj tt:Nat}{pol:Bool}{t yt:TypeId}{x y:Operand}{a b:List Nat}{g1:Prop}(hh:JS G K x=some (.str a)∧JS G K y=some (.str b)∧UM ops jj=some tt∧K.lookup tt=some (.bool pol)∧Nat.ble (d+1) N=true)(h:To (SG j q h0 n0 X ((d,.bool (!decide (a=b)))::K) M (WR P G N ops rest R)) g1):To (SG (j+1) q h0 n0 X K M (WR P G N ops (⟨some d,.binOp .neq t x y yt,ty,pos,af,some (jj,pol)⟩::rest) R)) g1:=AZ hh.2.2.1 hh.2.2.2.1 hh.2.2.2.2 (fun st hM=>V1 hh.1 hh.2.1) h
theorem ym{t:TypeId}{x:Operand}{b:Bool}{g1:Prop}(hh:JS G K x=some (.bool b)∧Nat.ble (d+1) N=true)(h:To (SG j q h0 n0 X ((d,.bool (!b))::K) M (WR P G N ops rest R)) g1):To (SG (j+1) q h0 n0 X K M (WR P G N ops (⟨some d,.unOp .not t x,ty,pos,af,none⟩::rest) R)) g1:=AY hh.2 (fun st hM=>Nq hh.1) h
theorem yD{jj tt:Nat}{pol:Bool}{t:TypeId}{x:Operand}{b:Bool}{g1:Prop}(hh:JS G K x=some (.bool b)∧UM ops jj=some tt∧K.lookup tt=some (.bool pol)∧Nat.ble (d+1) N=true)(h:To (SG j q h0 n0 X ((d,.bool (!b))::K) M (WR P G N ops rest R)) g1):To (SG (j+1) q h0 n0 X K M (WR P G N ops (⟨some d,.unOp .not t x,ty,pos,af,some (jj,pol)⟩::rest) R)) g1:=AZ hh.2.1 hh.2.2.1 hh.2.2.2 (fun st hM=>Nq hh.1) h
theorem TY{x a b:Operand}{t:Bool}{u v:AV}{g1:Prop}(hh:JS G K x=some (.bool t)∧JS G K a=some u∧JS G K b=some v∧Nat.ble (d+1) N=true)(h:To (SG j q h0 n0 X ((d,Qu t u v)::K) M (WR P G N ops rest R)) g1):To (SG (j+1) q h0 n0 X K M (WR P G N ops (⟨some d,.pick x a b,ty,pos,af,none⟩::rest) R)) g1:=AY hh.2.2.2 (fun st hM=>UY hh.1 hh.2.1 hh.2.2.1) h
theorem qv{jj tt:Nat}{pol:Bool}{x a b:Operand}{t:Bool}{u v:AV}{g1:Prop}(hh:JS G K x=some (.bool t)∧JS G K a=some u∧JS G K b=some v∧UM ops jj=some tt∧K.lookup tt=some (.bool pol)∧Nat.ble (d+1) N=true)(h:To (SG j q h0 n0 X ((d,Qu t u v)::K) M (WR P G N ops rest R)) g1):To (SG (j+1) q h0 n0 X K M (WR P G N ops (⟨some d,.pick x a b,ty,pos,af,some (jj,pol)⟩::rest) R)) g1:=AZ hh.2.2.2.1 hh.2.2.2.2.1 hh.2.2.2.2.2 (fun st hM=>UY hh.1 hh.2.1 hh.2.2.1) h
theorem yx{x:Operand}{i:Nat}{l:List AV}{v:AV}{g1:Prop}(hh:JS G K x=some (.tup l)∧nth l i=some v∧Nat.ble (d+1) N=true)(h:To (SG j q h0 n0 X ((d,v)::K) M (WR P G N ops rest R)) g1):To (SG (j+1) q h0 n0 X K M (WR P G N ops (⟨some d,.extract x i,ty,pos,af,none⟩::rest) R)) g1:=AY hh.2.2 (fun st hM=>Ns hh.1 hh.2.1) h
theorem yL{jj tt:Nat}{pol:Bool}{x:Operand}{i:Nat}{l:List AV}{v:AV}{g1:Prop}(hh:JS G K x=some (.tup l)∧nth l i=some v∧UM ops jj=some tt∧K.lookup tt=some (.bool pol)∧Nat.ble (d+1) N=true)(h:To (SG j q h0 n0 X ((d,v)::K) M (WR P G N ops rest R)) g1):To (SG (j+1) q h0 n0 X K M (WR P G N ops (⟨some d,.extract x i,ty,pos,af,some (jj,pol)⟩::rest) R)) g1:=AZ hh.2.2.1 hh.2.2.2.1 hh.2.2.2.2 (fun st hM=>Ns hh.1 hh.2.1) h
theorem XZ{t:TypeId}{x:Operand}{v:AV} [ht:T1 P t](k:Nat){c m off:Nat}{l:List AV}{g1:Prop}(hh:JS G K x=some (.ptr c m off)∧M[k]? =some (c,m,l)∧nth l off=some v∧Nat.ble (d+1) N=true)(h:To (SG j q h0 n0 X ((d,v)::K) M (WR P G N ops rest R)) g1):To (SG (j+1) q h0 n0 X K M (WR P G N ops (⟨some d,.load t x,ty,pos,af,none⟩::rest) R)) g1:=AY hh.2.2.2 (fun st hM=>Qx hh.1 (hM.load hh.2.1 (Qk ht.h hh.2.2.1))) h
theorem Vi{jj tt:Nat}{pol:Bool}{t:TypeId}{x:Operand}{v:AV} [ht:T1 P t](k:Nat){c m off:Nat}{l:List AV}{g1:Prop}(hh:JS G K x=some (.ptr c m off)∧M[k]? =some (c,m,l)∧nth l off=some v∧UM ops jj=some tt∧K.lookup tt=some (.bool pol)∧Nat.ble (d+1) N=true)(h:To (SG j q h0 n0 X ((d,v)::K) M (WR P G N ops rest R)) g1):To (SG (j+1) q h0 n0 X K M (WR P G N ops (⟨some d,.load t x,ty,pos,af,some (jj,pol)⟩::rest) R)) g1:=AZ hh.2.2.2.1 hh.2.2.2.2.1 hh.2.2.2.2.2 (fun st hM=>Qx hh.1 (hM.load hh.2.1 (Qk ht.h hh.2.2.1))) h
theorem ZD{t:TypeId}{x:Operand}{n:Nat}{r:List AV} [ht:TA P t n](k:Nat){c m off:Nat}{l:List AV}{g1:Prop}(hh:JS G K x=some (.ptr c m off)∧M[k]? =some (c,m,l)∧AN n (Aa off l) (fun r=>some (AV.agg r))=some (.agg r)∧Nat.ble (d+1) N=true)(h:To (SG j q h0 n0 X ((d,.agg r)::K) M (WR P G N ops rest R)) g1):To (SG (j+1) q h0 n0 X K M (WR P G N ops (⟨some d,.load t x,ty,pos,af,none⟩::rest) R)) g1:=AY hh.2.2.2 (fun st hM=>Qx hh.1 (hM.load hh.2.1 (QG ht.h hh.2.2.1))) h
theorem ZH{jj tt:Nat}{pol:Bool}{t:TypeId}{x:Operand}{n:Nat}{r:List AV} [ht:TA P t n](k:Nat){c m off:Nat}{l:List AV}{g1:Prop}(hh:JS G K x=some (.ptr c m off)∧M[k]? =some (c,m,l)∧AN n (Aa off l) (fun r=>some (AV.agg r))=some (.agg r)∧UM ops jj=some tt∧K.lookup tt=some (.bool pol)∧Nat.ble (d+1) N=true)(h:To (SG j q h0 n0 X ((d,.agg r)::K) M (WR P G N ops rest R)) g1):To (SG (j+1) q h0 n0 X K M (WR P G N ops (⟨some d,.load t x,ty,pos,af,some (jj,pol)⟩::rest) R)) g1:=AZ hh.2.2.2.1 hh.2.2.2.2.1 hh.2.2.2.2.2 (fun st hM=>Qx hh.1 (hM.load hh.2.1 (QG ht.h hh.2.2.1))) h
theorem Am{t:TypeId}{x y:Operand}{w:AV}{n:Nat} [hz:SZ P t n](k:Nat){c m off:Nat}{l l':List AV}{g1:Prop}(hh:JS G K x=some (.ptr c m off)∧JS G K y=some w∧M[k]? =some (c,m,l)∧(JZ w).length=n∧EF Jy (JZ w)=true∧Xx (JZ w) off l=some l')(h:To (SG j (fun _=>True) h0 n0 X K (M.set k (c,m,l')) (WR P G N ops rest R)) g1):To (SG (j+1) (fun _=>True) h0 n0 X K M (WR P G N ops (⟨none,.store t x y,ty,pos,af,none⟩::rest) R)) g1:=
 fun h' T st hK _ hM=>QB (k:=k) hK hM hh.1 hh.2.1 hh.2.2.1 hz.h hh.2.2.2.1 hh.2.2.2.2.1 hh.2.2.2.2.2 fun st' hM'=>h h' T st' hK trivial hM'
theorem jN{t:TypeId}{l:List AV}{g:Nat→Prop} [hz:ZE P t l](hN:Nat.ble (d+1) N=true)(h: ∀c,To (SG j (fun _=>True) h0 n0 X ((d,.ptr c 0 0)::K) ((c,0,l)::M) (WR P G N ops rest R)) (g c)):To (SG (j+1) (fun _=>True) h0 n0 X K M (WR P G N ops (⟨some d,.alloc t,ty,pos,af,none⟩::rest) R)) (∀c,g c):=
 fun h' T st hK _ hM=>U0 hK hM hz.h (Nat.le_of_ble_eq_true hN) fun c T' st' hK' hM'=>h c (h' c) T' st' hK' trivial hM'
theorem za{g:Prop}:To g g:=id
theorem jM{st0:St}{F:Tr AV→St→Prop}:To (SG j (fun s=>s=st0) h0 n0 X K M F) (∀T,Jm K T→F T st0):=fun h T st hK hq hM=>hq▸h T hK
theorem au(j:Nat){F:Tr AV→St→Prop}{T:Tr AV}{st:St}(hK:Jm K T)(hM:Mem h0 n0 X st M)(hn:g')(h:To (SG j (fun _=>True) h0 n0 X K M F) g':=by
 repeat' first
  |with_reducible refine' TW ?_
  |with_reducible refine' y0 ?_
  |with_reducible refine' yl ?_
  |with_reducible refine' yn ?_
  |with_reducible refine' Rh ?_
  |with_reducible refine' TX ?_
  |with_reducible refine' Rf ?_
  |with_reducible refine' BH ?_
  |((with_reducible refine' Ma ?_ ?_);any_goals exact⟨rfl,rfl⟩)
  |((with_reducible refine' qx ?_ ?_);any_goals exact⟨rfl,rfl,rfl,rfl⟩)
  |((with_reducible refine' BI ?_ ?_);any_goals exact⟨rfl,rfl⟩)
  |((with_reducible refine' CB ?_ ?_);any_goals exact⟨rfl,rfl,rfl,rfl⟩)
  |((with_reducible refine' yw ?_ ?_);any_goals exact⟨rfl,rfl⟩)
  |((with_reducible refine' yK ?_ ?_);any_goals exact⟨rfl,rfl,rfl,rfl⟩)
  |((with_reducible refine' TZ ?_ ?_);any_goals exact⟨rfl,rfl⟩)
  |((with_reducible refine' qw ?_ ?_);any_goals exact⟨rfl,rfl,rfl,rfl⟩)
  |((with_reducible refine' yq ?_ ?_);any_goals exact⟨rfl,rfl,rfl⟩)
  |((with_reducible refine' yG ?_ ?_);any_goals exact⟨rfl,rfl,rfl,rfl,rfl⟩)
  |((with_reducible refine' ys ?_ ?_);any_goals exact⟨rfl,rfl,rfl⟩)
  |((with_reducible refine' yI ?_ ?_);any_goals exact⟨rfl,rfl,rfl,rfl,rfl⟩)
  |((with_reducible refine' yr ?_ ?_);any_goals exact⟨rfl,rfl,rfl⟩)
  |((with_reducible refine' yH ?_ ?_);any_goals exact⟨rfl,rfl,rfl,rfl,rfl⟩)
  |((with_reducible refine' yv ?_ ?_);any_goals exact⟨rfl,rfl,rfl⟩)
  |((with_reducible refine' yJ ?_ ?_);any_goals exact⟨rfl,rfl,rfl,rfl,rfl⟩)
  |((with_reducible refine' yz ?_ ?_);any_goals exact⟨rfl,rfl,rfl⟩)
  |((with_reducible refine' yN ?_ ?_);any_goals exact⟨rfl,rfl,rfl,rfl,rfl⟩)
  |((with_reducible refine' yp ?_ ?_);any_goals exact⟨rfl,rfl,rfl⟩)
  |((with_reducible refine' yF ?_ ?_);any_goals exact⟨rfl,rfl,rfl,rfl,rfl⟩)
  |((with_reducible refine' yy ?_ ?_);any_goals exact⟨rfl,rfl,rfl⟩)
  |((with_reducible refine' yM ?_ ?_);any_goals exact⟨rfl,rfl,rfl,rfl,rfl⟩)
  |((with_reducible refine' yo ?_ ?_);any_goals exact⟨rfl,rfl,rfl⟩)
  |((with_reducible refine' yE ?_ ?_);any_goals exact⟨rfl,rfl,rfl,rfl,rfl⟩)
  |((with_reducible refine' ym ?_ ?_);any_goals exact⟨rfl,rfl⟩)
  |((with_reducible refine' yD ?_ ?_);any_goals exact⟨rfl,rfl,rfl,rfl⟩)
  |((with_reducible refine' TY ?_ ?_);any_goals exact⟨rfl,rfl,rfl,rfl⟩)
  |((with_reducible refine' qv ?_ ?_);any_goals exact⟨rfl,rfl,rfl,rfl,rfl,rfl⟩)
  |((with_reducible refine' yx ?_ ?_);any_goals exact⟨rfl,rfl,rfl⟩)
  |((with_reducible refine' yL ?_ ?_);any_goals exact⟨rfl,rfl,rfl,rfl,rfl⟩)
  |((with_reducible refine' XZ 0 ?_ ?_);any_goals exact⟨rfl,rfl,rfl,rfl⟩)
  |((with_reducible refine' XZ 1 ?_ ?_);any_goals exact⟨rfl,rfl,rfl,rfl⟩)
  |((with_reducible refine' XZ 2 ?_ ?_);any_goals exact⟨rfl,rfl,rfl,rfl⟩)
  |((with_reducible refine' XZ 3 ?_ ?_);any_goals exact⟨rfl,rfl,rfl,rfl⟩)
  |((with_reducible refine' XZ 4 ?_ ?_);any_goals exact⟨rfl,rfl,rfl,rfl⟩)
  |((with_reducible refine' XZ 5 ?_ ?_);any_goals exact⟨rfl,rfl,rfl,rfl⟩)
  |((with_reducible refine' XZ 6 ?_ ?_);any_goals exact⟨rfl,rfl,rfl,rfl⟩)
  |((with_reducible refine' Vi 0 ?_ ?_);any_goals exact⟨rfl,rfl,rfl,rfl,rfl,rfl⟩)
  |((with_reducible refine' Vi 1 ?_ ?_);any_goals exact⟨rfl,rfl,rfl,rfl,rfl,rfl⟩)
  |((with_reducible refine' Vi 2 ?_ ?_);any_goals exact⟨rfl,rfl,rfl,rfl,rfl,rfl⟩)
  |((with_reducible refine' Vi 3 ?_ ?_);any_goals exact⟨rfl,rfl,rfl,rfl,rfl,rfl⟩)
  |((with_reducible refine' Vi 4 ?_ ?_);any_goals exact⟨rfl,rfl,rfl,rfl,rfl,rfl⟩)
  |((with_reducible refine' Vi 5 ?_ ?_);any_goals exact⟨rfl,rfl,rfl,rfl,rfl,rfl⟩)
  |((with_reducible refine' Vi 6 ?_ ?_);any_goals exact⟨rfl,rfl,rfl,rfl,rfl,rfl⟩)
  |((with_reducible refine' ZD 0 ?_ ?_);any_goals exact⟨rfl,rfl,rfl,rfl⟩)
  |((with_reducible refine' ZD 1 ?_ ?_);any_goals exact⟨rfl,rfl,rfl,rfl⟩)
  |((with_reducible refine' ZD 2 ?_ ?_);any_goals exact⟨rfl,rfl,rfl,rfl⟩)
  |((with_reducible refine' ZD 3 ?_ ?_);any_goals exact⟨rfl,rfl,rfl,rfl⟩)
  |((with_reducible refine' ZD 4 ?_ ?_);any_goals exact⟨rfl,rfl,rfl,rfl⟩)
  |((with_reducible refine' ZD 5 ?_ ?_);any_goals exact⟨rfl,rfl,rfl,rfl⟩)
  |((with_reducible refine' ZD 6 ?_ ?_);any_goals exact⟨rfl,rfl,rfl,rfl⟩)
  |((with_reducible refine' ZH 0 ?_ ?_);any_goals exact⟨rfl,rfl,rfl,rfl,rfl,rfl⟩)
  |((with_reducible refine' ZH 1 ?_ ?_);any_goals exact⟨rfl,rfl,rfl,rfl,rfl,rfl⟩)
  |((with_reducible refine' ZH 2 ?_ ?_);any_goals exact⟨rfl,rfl,rfl,rfl,rfl,rfl⟩)
  |((with_reducible refine' ZH 3 ?_ ?_);any_goals exact⟨rfl,rfl,rfl,rfl,rfl,rfl⟩)
  |((with_reducible refine' ZH 4 ?_ ?_);any_goals exact⟨rfl,rfl,rfl,rfl,rfl,rfl⟩)
  |((with_reducible refine' ZH 5 ?_ ?_);any_goals exact⟨rfl,rfl,rfl,rfl,rfl,rfl⟩)
  |((with_reducible refine' ZH 6 ?_ ?_);any_goals exact⟨rfl,rfl,rfl,rfl,rfl,rfl⟩)
  |((with_reducible refine' Am 0 ?_ ?_);any_goals exact⟨rfl,rfl,rfl,rfl,rfl,rfl⟩)
  |((with_reducible refine' Am 1 ?_ ?_);any_goals exact⟨rfl,rfl,rfl,rfl,rfl,rfl⟩)
  |((with_reducible refine' Am 2 ?_ ?_);any_goals exact⟨rfl,rfl,rfl,rfl,rfl,rfl⟩)
  |((with_reducible refine' Am 3 ?_ ?_);any_goals exact⟨rfl,rfl,rfl,rfl,rfl,rfl⟩)
  |((with_reducible refine' Am 4 ?_ ?_);any_goals exact⟨rfl,rfl,rfl,rfl,rfl,rfl⟩)
  |((with_reducible refine' Am 5 ?_ ?_);any_goals exact⟨rfl,rfl,rfl,rfl,rfl,rfl⟩)
  |((with_reducible refine' Am 6 ?_ ?_);any_goals exact⟨rfl,rfl,rfl,rfl,rfl,rfl⟩)
  |((with_reducible refine' zW ?_ ?_);any_goals exact⟨rfl,rfl,rfl,rfl⟩)
  |((with_reducible refine' yu ?_ ?_);any_goals exact⟨rfl,rfl,rfl⟩)
  |((with_reducible refine' jN ?_ fun _=>?_);any_goals exact rfl)
  |with_reducible exact za):F T st:=h hn T st hK trivial hM
theorem Qg(j:Nat){F:Tr AV→St→Prop}{T:Tr AV}{st:St}(hK:Jm K T)(hM:Mem h0 n0 X st M)(hn:g')(h:To (SG j (fun s=>s=st) h0 n0 X K M F) g':=by
 repeat' first
  |with_reducible refine' TW ?_
  |with_reducible refine' y0 ?_
  |with_reducible refine' yl ?_
  |with_reducible refine' yn ?_
  |with_reducible refine' Rh ?_
  |with_reducible refine' TX ?_
  |with_reducible refine' Rf ?_
  |with_reducible refine' BH ?_
  |((with_reducible refine' Ma ?_ ?_);any_goals exact⟨rfl,rfl⟩)
  |((with_reducible refine' qx ?_ ?_);any_goals exact⟨rfl,rfl,rfl,rfl⟩)
  |((with_reducible refine' BI ?_ ?_);any_goals exact⟨rfl,rfl⟩)
  |((with_reducible refine' CB ?_ ?_);any_goals exact⟨rfl,rfl,rfl,rfl⟩)
  |((with_reducible refine' yw ?_ ?_);any_goals exact⟨rfl,rfl⟩)
  |((with_reducible refine' yK ?_ ?_);any_goals exact⟨rfl,rfl,rfl,rfl⟩)
  |((with_reducible refine' TZ ?_ ?_);any_goals exact⟨rfl,rfl⟩)
  |((with_reducible refine' qw ?_ ?_);any_goals exact⟨rfl,rfl,rfl,rfl⟩)
  |((with_reducible refine' yq ?_ ?_);any_goals exact⟨rfl,rfl,rfl⟩)
  |((with_reducible refine' yG ?_ ?_);any_goals exact⟨rfl,rfl,rfl,rfl,rfl⟩)
  |((with_reducible refine' ys ?_ ?_);any_goals exact⟨rfl,rfl,rfl⟩)
  |((with_reducible refine' yI ?_ ?_);any_goals exact⟨rfl,rfl,rfl,rfl,rfl⟩)
  |((with_reducible refine' yr ?_ ?_);any_goals exact⟨rfl,rfl,rfl⟩)
  |((with_reducible refine' yH ?_ ?_);any_goals exact⟨rfl,rfl,rfl,rfl,rfl⟩)
  |((with_reducible refine' yv ?_ ?_);any_goals exact⟨rfl,rfl,rfl⟩)
  |((with_reducible refine' yJ ?_ ?_);any_goals exact⟨rfl,rfl,rfl,rfl,rfl⟩)
  |((with_reducible refine' yz ?_ ?_);any_goals exact⟨rfl,rfl,rfl⟩)
  |((with_reducible refine' yN ?_ ?_);any_goals exact⟨rfl,rfl,rfl,rfl,rfl⟩)
  |((with_reducible refine' yp ?_ ?_);any_goals exact⟨rfl,rfl,rfl⟩)
  |((with_reducible refine' yF ?_ ?_);any_goals exact⟨rfl,rfl,rfl,rfl,rfl⟩)
  |((with_reducible refine' yy ?_ ?_);any_goals exact⟨rfl,rfl,rfl⟩)
  |((with_reducible refine' yM ?_ ?_);any_goals exact⟨rfl,rfl,rfl,rfl,rfl⟩)
  |((with_reducible refine' yo ?_ ?_);any_goals exact⟨rfl,rfl,rfl⟩)
  |((with_reducible refine' yE ?_ ?_);any_goals exact⟨rfl,rfl,rfl,rfl,rfl⟩)
  |((with_reducible refine' ym ?_ ?_);any_goals exact⟨rfl,rfl⟩)
  |((with_reducible refine' yD ?_ ?_);any_goals exact⟨rfl,rfl,rfl,rfl⟩)
  |((with_reducible refine' TY ?_ ?_);any_goals exact⟨rfl,rfl,rfl,rfl⟩)
  |((with_reducible refine' qv ?_ ?_);any_goals exact⟨rfl,rfl,rfl,rfl,rfl,rfl⟩)
  |((with_reducible refine' yx ?_ ?_);any_goals exact⟨rfl,rfl,rfl⟩)
  |((with_reducible refine' yL ?_ ?_);any_goals exact⟨rfl,rfl,rfl,rfl,rfl⟩)
  |((with_reducible refine' XZ 0 ?_ ?_);any_goals exact⟨rfl,rfl,rfl,rfl⟩)
  |((with_reducible refine' XZ 1 ?_ ?_);any_goals exact⟨rfl,rfl,rfl,rfl⟩)
  |((with_reducible refine' XZ 2 ?_ ?_);any_goals exact⟨rfl,rfl,rfl,rfl⟩)
  |((with_reducible refine' XZ 3 ?_ ?_);any_goals exact⟨rfl,rfl,rfl,rfl⟩)
  |((with_reducible refine' XZ 4 ?_ ?_);any_goals exact⟨rfl,rfl,rfl,rfl⟩)
  |((with_reducible refine' XZ 5 ?_ ?_);any_goals exact⟨rfl,rfl,rfl,rfl⟩)
  |((with_reducible refine' XZ 6 ?_ ?_);any_goals exact⟨rfl,rfl,rfl,rfl⟩)
  |((with_reducible refine' Vi 0 ?_ ?_);any_goals exact⟨rfl,rfl,rfl,rfl,rfl,rfl⟩)
  |((with_reducible refine' Vi 1 ?_ ?_);any_goals exact⟨rfl,rfl,rfl,rfl,rfl,rfl⟩)
  |((with_reducible refine' Vi 2 ?_ ?_);any_goals exact⟨rfl,rfl,rfl,rfl,rfl,rfl⟩)
  |((with_reducible refine' Vi 3 ?_ ?_);any_goals exact⟨rfl,rfl,rfl,rfl,rfl,rfl⟩)
  |((with_reducible refine' Vi 4 ?_ ?_);any_goals exact⟨rfl,rfl,rfl,rfl,rfl,rfl⟩)
  |((with_reducible refine' Vi 5 ?_ ?_);any_goals exact⟨rfl,rfl,rfl,rfl,rfl,rfl⟩)
  |((with_reducible refine' Vi 6 ?_ ?_);any_goals exact⟨rfl,rfl,rfl,rfl,rfl,rfl⟩)
  |((with_reducible refine' ZD 0 ?_ ?_);any_goals exact⟨rfl,rfl,rfl,rfl⟩)
  |((with_reducible refine' ZD 1 ?_ ?_);any_goals exact⟨rfl,rfl,rfl,rfl⟩)
  |((with_reducible refine' ZD 2 ?_ ?_);any_goals exact⟨rfl,rfl,rfl,rfl⟩)
  |((with_reducible refine' ZD 3 ?_ ?_);any_goals exact⟨rfl,rfl,rfl,rfl⟩)
  |((with_reducible refine' ZD 4 ?_ ?_);any_goals exact⟨rfl,rfl,rfl,rfl⟩)
  |((with_reducible refine' ZD 5 ?_ ?_);any_goals exact⟨rfl,rfl,rfl,rfl⟩)
  |((with_reducible refine' ZD 6 ?_ ?_);any_goals exact⟨rfl,rfl,rfl,rfl⟩)
  |((with_reducible refine' ZH 0 ?_ ?_);any_goals exact⟨rfl,rfl,rfl,rfl,rfl,rfl⟩)
  |((with_reducible refine' ZH 1 ?_ ?_);any_goals exact⟨rfl,rfl,rfl,rfl,rfl,rfl⟩)
  |((with_reducible refine' ZH 2 ?_ ?_);any_goals exact⟨rfl,rfl,rfl,rfl,rfl,rfl⟩)
  |((with_reducible refine' ZH 3 ?_ ?_);any_goals exact⟨rfl,rfl,rfl,rfl,rfl,rfl⟩)
  |((with_reducible refine' ZH 4 ?_ ?_);any_goals exact⟨rfl,rfl,rfl,rfl,rfl,rfl⟩)
  |((with_reducible refine' ZH 5 ?_ ?_);any_goals exact⟨rfl,rfl,rfl,rfl,rfl,rfl⟩)
  |((with_reducible refine' ZH 6 ?_ ?_);any_goals exact⟨rfl,rfl,rfl,rfl,rfl,rfl⟩)
  |((with_reducible refine' zW ?_ ?_);any_goals exact⟨rfl,rfl,rfl,rfl⟩)
  |((with_reducible refine' yu ?_ ?_);any_goals exact⟨rfl,rfl,rfl⟩)
  |with_reducible exact jM):F T st:=h hn T st hK rfl hM
end
section
variable {P:Program} {G:Env} {N:Nat} {h0:Hp} {n0:Nat} {X:List Nat} {K:List (Nat×AV)} {M:List (Nat×Nat×List AV)} {ops rest:List Oper} {R:Tr AV→St→Prop} {Q:Ex→Tr AV→St→Prop} {d:Nat} {ty:TypeId} {pos:String} {af:Array Edge} {T:Tr AV} {st:St}
theorem Z0{g:Operand}{a b:Code}{p:Prop} [Decidable p](hK:Jm K T)(hg:JS G K g=some (.bool (decide p)))(ha:p→W P G N a Q T st)(hb: ¬p→W P G N b Q T st):W P G N (.cond g a b) Q T st:=Qn (hK.QR hg) (fun h=>ha (of_decide_eq_true h)) fun h=>hb (of_decide_eq_false h)
theorem G5{g:Operand}{a b:Code}{p:Prop} [Decidable p](hK:Jm K T)(hg:JS G K g=some (.bool (!decide p)))(ha: ¬p→W P G N a Q T st)(hb:p→W P G N b Q T st):W P G N (.cond g a b) Q T st:=Qn (hK.QR hg) (fun h=>ha (by simpa using h)) fun h=>hb (by simpa using h)
theorem oQ{f:FuncId}{args:Array Operand}{tys:Array TypeId}{l:List AV}{u:AV}(hK:Jm K T)(hM:Mem h0 n0 X st M)(h: ∃v st',Ev P G f l st v st'∧v=u∧Qt st st')(ha:Yo (JS G K) args.toList=some l)(hN:Nat.ble (d+1) N=true)(hn: ∀T' st',Jm ((d,u)::K) T'→Mem h0 n0 X st' M→WR P G N ops rest R T' st'):
  WR P G N ops (⟨some d,.call {callee:=.value (.func f),args:=args,argTypes:=tys},ty,pos,af,none⟩::rest) R T st:=by
 obtain⟨v,st',ev,rfl,q⟩:=h;exact o1 hK (Qc ha ev) hN fun T' hK'=>hn T' st' hK' (hM.quiet q)
theorem oR{f:FuncId}{args:Array Operand}{tys:Array TypeId}{l:List AV}{u:AV}(k:Nat){c m m':Nat}{r r':List AV}(hK:Jm K T)(hM:Mem h0 n0 X st M)(h: ∃v st',Ev P G f l st v st'∧v=u∧Ag [c] st st'∧JA st'.h.get c m' r')(hk:M[k]? =some (c,m,r))(ha:Yo (JS G K) args.toList=some l)(hN:Nat.ble (d+1) N=true)(hn: ∀T' st',Jm ((d,u)::K) T'→Mem h0 n0 X st' (M.set k (c,m',r'))→WR P G N ops rest R T' st'):
  WR P G N ops (⟨some d,.call {callee:=.value (.func f),args:=args,argTypes:=tys},ty,pos,af,none⟩::rest) R T st:=by
 obtain⟨v,st',ev,rfl,q,w⟩:=h;exact o1 hK (Qc ha ev) hN fun T' hK'=>hn T' st' hK' (hM.JP hk q w)
theorem QC{f:FuncId}{fn:Func}{c:Code}{N:Nat}{rs:List ResultVar}{args:List AV}{Q:AV→St→Prop}(hs:G.s f=none)(hf:P.funcs[f]? =some fn)(hb:fn.body=some c)(hN:fn.ntmps=N)(hr:fn.results.toList=rs)
 (h: ∀T,(∀t,Zs T t=(args[t]?).getD (.tup []))→W P G N c (fun x T st=>(x=.nor∨x=.ret)∧ ∃v,U1 P rs T st=some v∧Q v st) T st) (hname:(fn.name== "runtime.NumGoroutine")=false:=by decide) (hl:args.length≤N:=by simp): ∃v st',Ev P G f args st v st'∧Q v st':=xo hs hf hb hN hr hname hl h
theorem JU{t:Nat}{v:AV}(hK:Jm K T)(h:K.lookup t=some v):U1 P [.tmp t] T st=some v:=FK (QY hK h)
theorem Ah{t s:Nat}{u v:AV}(hK:Jm K T)(h:K.lookup t=some u)(h':K.lookup s=some v):U1 P [.tmp t,.tmp s] T st=some (.tup [u,v]):=YC (QY hK h) (QY hK h')
theorem YI{a n:Nat}{t:TypeId}{l r:List AV} [ht:TA P t n](k:Nat){c m off:Nat}(hK:Jm K T)(hM:Mem h0 n0 X st M)(h:K.lookup a=some (.ptr c m off))(hk:M[k]? =some (c,m,l))(hl:AN n (Aa off l) (fun r=>some (AV.agg r))=some (.agg r)):U1 P [.cell a t] T st=some (.agg r):=FK (Uk hK h (hM.load hk (QG ht.h hl)))
end
end Go.Proofs.YtadjjadimlkkgaaGreatDoor
end
section
namespace Go.Proofs.YtadjjadimlkkgaaGreatDoor
open Go Go.RowKit

theorem jb{st:St}(hf:Q6 st)(r:Int): ∃v st',Ev Tryz.prog Ja 191 [.int .i32 r] st v st'∧v=.int .i64 (QW r)∧Qt st st':=⟨_,_,uM (F:=GI) rfl rfl,rfl,Qt.refl hf⟩

theorem FM{st:St}(hf:Q6 st){g:Nat}{l:List Nat}{ks:AV}{L:List (Nat×Nat)}{bad:Option Nat}{n:Nat}(h:Oh st.h.get g l ks L bad n)(k:Nat)(hk:k≤100000): ∃v st',Ev Tryz.prog Ja 133 [.ptr g 0 0,.int .i64 (((k:Nat):Int))] st v st'∧v=.int .i64 (Jr L (n+k))∧Qt st st':=by
 have hrl:= @Wq L;have hfew:=h.few;have hle:=h.le;have hsz:=h.size;refine QC rfl Tryz.func133 rfl Tryz.ntmps133 rfl fun T hT=>?_;have K:Jm [(0,_),(1,_)] T:=(.cons (hT 0) (.cons (hT 1) .nil));have M:=Mem.start hf;refine Qg 1 K M ?_;intro _ K;refine Jk (l:=[(0,0),(1,0),(2,0),(3,0),(4,0),(5,0),(6,0),(7,0),(8,0),(9,0),(10,0),(11,0)]) (by kernel_rfl) ?_;refine d1 rfl K (Qb rfl) rfl rfl fun _ K=>d1 rfl K (JN rfl rfl) rfl rfl fun _ K=>d1 rfl K (Qf Jq rfl) rfl rfl fun _ K=>d1 rfl K (Qx rfl (Yt (M.Ar (by simp) h.row.Xg) (Qk QI rfl))) rfl rfl fun _ K=>d1 rfl K (Qb rfl) rfl rfl fun _ K=>d1 rfl K (Jn rfl rfl (by omega) (by omega)) rfl rfl fun _ K=>d1 rfl K (Qb rfl) rfl rfl fun _ K=>d1 rfl K (JN rfl rfl) rfl rfl fun _ K=>d1 rfl K (Qf J6 rfl) rfl rfl fun _ K=>?_;refine d1 rfl K (Qx rfl (Yt (M.Ar (by simp) h.row.Xg) (Qk UA rfl))) rfl rfl fun _ K=>d1 rfl K (Jd Z3 rfl rfl (h.run.mem M (by simp)).len) rfl rfl fun _ K=>d1 rfl K (HG rfl rfl) rfl rfl fun _ K=>J0 ?_;show W _ _ _ _ _ _ _;refine Qn (K.QR rfl) (fun h16=>?_) (fun h16=>?_)
 ·replace h16:=of_decide_eq_true h16;refine Qg 1 K M ?_;intro _ K;refine Qe ⟨.inr rfl,_,JU K rfl,?_⟩;exact⟨by rw[NS (by omega)],M.qt⟩
 ·replace h16:=of_decide_eq_false h16;refine QT ?_;show W _ _ _ _ _ _ _;refine Qq ?_;refine Jk (l:=[(0,0),(1,0),(2,0),(3,0),(4,0),(5,0),(6,0),(7,0),(8,0),(9,0),(10,0),(11,0),(12,0),(13,0),(14,0)]) (by kernel_rfl) ?_;refine d1 rfl K (Qb rfl) rfl rfl fun _ K=>d1 rfl K (JN rfl rfl) rfl rfl fun _ K=>d1 rfl K (Qf J6 rfl) rfl rfl fun _ K=>d1 rfl K (Qx rfl (Yt (M.Ar (by simp) h.row.Xg) (Qk UA rfl))) rfl rfl fun _ K=>d1 rfl K (Qb rfl) rfl rfl fun _ K=>d1 rfl K (JN rfl rfl) rfl rfl fun _ K=>d1 rfl K (Qf Jq rfl) rfl rfl fun _ K=>d1 rfl K (Qx rfl (Yt (M.Ar (by simp) h.row.Xg) (Qk QI rfl))) rfl rfl fun _ K=>d1 rfl K (Qb rfl) rfl rfl fun _ K=>?_;refine d1 rfl K (Jn rfl rfl (by omega) (by omega)) rfl rfl fun _ K=>?_;obtain⟨rc27,ra27,hr27,hd27⟩:=ZG (L:=L) (n:=(n+k)) (by omega);obtain⟨x27,m27,f27,q27,_,la27,lo27,lp27⟩:=(h.run.mem M (by simp)).load (i:=(n+k)) (cs:=_) (GJ hr27);refine d1 rfl K (Qr VF (congrArg some q27) rfl (by simp;omega)) rfl rfl fun _ K=>d1 rfl K (Qf VD rfl) rfl rfl fun _ K=>d1 rfl K (Qx rfl (lo27 _ 0 _ I1 rfl)) rfl rfl fun _ K=>?_;obtain⟨v30,st30,ev30,rfl,q30⟩:=jb M.fresh (rc27:Int);refine dA rfl K (Qc rfl ev30) rfl rfl fun _ K=>?_;have Mp:=M;replace M:=M.quiet q30;refine d1 rfl K (QM rfl) rfl rfl fun _ K=>J0 ?_;show W _ _ _ _ _ _ _;refine Qe ⟨.inr rfl,_,JU K rfl,?_⟩;exact⟨by rw[Xd hr27],M.qt⟩

theorem GK{st:St}(hf:Q6 st){g:Nat}{l:List Nat}{ks:AV}{L:List (Nat×Nat)}{bad:Option Nat}{n:Nat}(h:Oh st.h.get g l ks L bad n)(k:Nat)(hk:k≤100000)(c:Int): ∃v st',Ev Tryz.prog Ja 134 [.ptr g 0 0,.int .i64 (((k:Nat):Int)),.int .i32 c] st v st'∧v=.bool (Ia L (n+k) c)∧Qt st st':=by
 have hrl:= @Wq L;have hfew:=h.few;have hle:=h.le;have hsz:=h.size;refine QC rfl Tryz.func134 rfl Tryz.ntmps134 rfl fun T hT=>?_;have K:Jm [(0,_),(1,_),(2,_)] T:=(.cons (hT 0) (.cons (hT 1) (.cons (hT 2) .nil)));have M:=Mem.start hf;refine Qg 1 K M ?_;intro _ K;refine Jk (l:=[(0,0),(1,0),(2,0),(3,0),(4,0),(5,0),(6,0),(7,0),(8,0),(9,0),(10,0),(11,0),(12,0),(13,0),(14,0),(15,0),(16,0),(17,0),(18,0),(19,0),(20,0),(21,0),(22,0),(23,0),(24,0),(25,0),(26,0),(27,0),(28,0),(29,0)]) (by kernel_rfl) ?_;refine d1 rfl K (Qb rfl) rfl rfl fun _ K=>d1 rfl K (JN rfl rfl) rfl rfl fun _ K=>d1 rfl K (Qf Jq rfl) rfl rfl fun _ K=>d1 rfl K (Qx rfl (Yt (M.Ar (by simp) h.row.Xg) (Qk QI rfl))) rfl rfl fun _ K=>d1 rfl K (Qb rfl) rfl rfl fun _ K=>d1 rfl K (Jn rfl rfl (by omega) (by omega)) rfl rfl fun _ K=>d1 rfl K (Qb rfl) rfl rfl fun _ K=>d1 rfl K (JN rfl rfl) rfl rfl fun _ K=>d1 rfl K (Qf J6 rfl) rfl rfl fun _ K=>?_;refine d1 rfl K (Qx rfl (Yt (M.Ar (by simp) h.row.Xg) (Qk UA rfl))) rfl rfl fun _ K=>d1 rfl K (Jd Z3 rfl rfl (h.run.mem M (by simp)).len) rfl rfl fun _ K=>d1 rfl K (Nr rfl rfl) rfl rfl fun _ K=>?_;refine dB rfl K (Qb rfl) rfl rfl fun b19 _ e19 K=>?_;cases b19
 ·replace e19:=of_decide_eq_false e19;refine ZC rfl K rfl rfl rfl rfl fun _ _ K=>ZC rfl K rfl rfl rfl rfl fun _ _ K=>ZC rfl K rfl rfl rfl rfl fun _ _ K=>ZC rfl K rfl rfl rfl rfl fun _ _ K=>ZC rfl K rfl rfl rfl rfl fun _ _ K=>ZC rfl K rfl rfl rfl rfl fun _ _ K=>ZC rfl K rfl rfl rfl rfl fun _ _ K=>ZC rfl K rfl rfl rfl rfl fun _ _ K=>ZC rfl K rfl rfl rfl rfl fun _ _ K=>?_;refine ZC rfl K rfl rfl rfl rfl fun _ _ K=>ZC rfl K rfl rfl rfl rfl fun _ _ K=>ZC rfl K rfl rfl rfl rfl fun _ _ K=>ZC rfl K rfl rfl rfl rfl fun _ _ K=>ZC rfl K rfl rfl rfl rfl fun _ _ K=>ZC rfl K rfl rfl rfl rfl fun _ _ K=>d1 rfl K (UY rfl rfl rfl) rfl rfl fun _ K=>d1 rfl K (QM rfl) rfl rfl fun _ K=>J0 ?_;show W _ _ _ _ _ _ _;refine Qe ⟨.inr rfl,_,JU K rfl,?_⟩;exact⟨(by rw[Pm (by omega)];rfl),M.qt⟩
 ·replace e19:=of_decide_eq_true e19;refine dg rfl K rfl rfl (Qb rfl) rfl rfl fun _ K=>dg rfl K rfl rfl (JN rfl rfl) rfl rfl fun _ K=>dg rfl K rfl rfl (Qf J6 rfl) rfl rfl fun _ K=>dg rfl K rfl rfl (Qx rfl (Yt (M.Ar (by simp) h.row.Xg) (Qk UA rfl))) rfl rfl fun _ K=>dg rfl K rfl rfl (Qb rfl) rfl rfl fun _ K=>dg rfl K rfl rfl (JN rfl rfl) rfl rfl fun _ K=>dg rfl K rfl rfl (Qf Jq rfl) rfl rfl fun _ K=>dg rfl K rfl rfl (Qx rfl (Yt (M.Ar (by simp) h.row.Xg) (Qk QI rfl))) rfl rfl fun _ K=>dg rfl K rfl rfl (Qb rfl) rfl rfl fun _ K=>?_;refine dg rfl K rfl rfl (Jn rfl rfl (by omega) (by omega)) rfl rfl fun _ K=>?_;obtain⟨rc30,ra30,hr30,hd30⟩:=ZG (L:=L) (n:=(n+k)) (by omega);obtain⟨x30,m30,f30,q30,_,la30,lo30,lp30⟩:=(h.run.mem M (by simp)).load (i:=(n+k)) (cs:=_) (GJ hr30);refine dg rfl K rfl rfl (Qr VF (congrArg some q30) rfl (by simp;omega)) rfl rfl fun _ K=>dg rfl K rfl rfl (Qf VD rfl) rfl rfl fun _ K=>dg rfl K rfl rfl (Qx rfl (lo30 _ 0 _ I1 rfl)) rfl rfl fun _ K=>dg rfl K rfl rfl (Qb rfl) rfl rfl fun _ K=>dg rfl K rfl rfl (Fm rfl rfl) rfl rfl fun _ K=>d1 rfl K (UY rfl rfl rfl) rfl rfl fun _ K=>d1 rfl K (QM rfl) rfl rfl fun _ K=>J0 ?_;show W _ _ _ _ _ _ _;refine Qe ⟨.inr rfl,_,JU K rfl,?_⟩;exact⟨(by rw[E2 hr30];rfl),M.qt⟩

theorem M0{st:St}(hf:Q6 st){g:Nat}{l:List Nat}{ks:AV}{L:List (Nat×Nat)}{bad:Option Nat}{n:Nat}(h:Oh st.h.get g l ks L bad n)(k:Nat)(hk:k≤100000): ∃v st',Ev Tryz.prog Ja 78 [.ptr g 0 0,.int .i64 (((k:Nat):Int))] st v st'∧v=.int .i64 ((QK l.length L (n+k):Nat):Int)∧Qt st st':=by
 have hrl:= @Wq L;have hfew:=h.few;have hle:=h.le;have hsz:=h.size;refine QC rfl Tryz.func78 rfl Tryz.ntmps78 rfl fun T hT=>?_;have K:Jm [(0,_),(1,_)] T:=(.cons (hT 0) (.cons (hT 1) .nil));have M:=Mem.start hf;refine Qg 1 K M ?_;intro _ K;refine Jk (l:=[(0,0),(1,0),(2,0),(3,0),(4,0),(5,0),(6,0),(7,0),(8,0),(9,0),(10,0),(11,0)]) (by kernel_rfl) ?_;refine d1 rfl K (Qb rfl) rfl rfl fun _ K=>d1 rfl K (JN rfl rfl) rfl rfl fun _ K=>d1 rfl K (Qf Jq rfl) rfl rfl fun _ K=>d1 rfl K (Qx rfl (Yt (M.Ar (by simp) h.row.Xg) (Qk QI rfl))) rfl rfl fun _ K=>d1 rfl K (Qb rfl) rfl rfl fun _ K=>d1 rfl K (Jn rfl rfl (by omega) (by omega)) rfl rfl fun _ K=>d1 rfl K (Qb rfl) rfl rfl fun _ K=>d1 rfl K (JN rfl rfl) rfl rfl fun _ K=>d1 rfl K (Qf J6 rfl) rfl rfl fun _ K=>?_;refine d1 rfl K (Qx rfl (Yt (M.Ar (by simp) h.row.Xg) (Qk UA rfl))) rfl rfl fun _ K=>d1 rfl K (Jd Z3 rfl rfl (h.run.mem M (by simp)).len) rfl rfl fun _ K=>d1 rfl K (HG rfl rfl) rfl rfl fun _ K=>J0 ?_;show W _ _ _ _ _ _ _;refine Qn (K.QR rfl) (fun h16=>?_) (fun h16=>?_)
 ·replace h16:=of_decide_eq_true h16;refine Qg 3 K M ?_;intro _ K;refine o1 K (Qx rfl (Yt (M.Ar (by simp) h.row.Xg) (Qk JI rfl))) rfl fun _ K=>o1 K (X3 UI rfl rfl) rfl fun _ K=>?_;refine Qg 1 K M ?_;intro _ K;refine Qe ⟨.inr rfl,_,JU K rfl,?_⟩;exact⟨by rw[Za (by omega)],M.qt⟩
 ·replace h16:=of_decide_eq_false h16;refine QT ?_;show W _ _ _ _ _ _ _;refine Qq ?_;refine Jk (l:=[(0,0),(1,0),(2,0),(3,0),(4,0),(5,0),(6,0),(7,0),(8,0),(9,0),(10,0),(11,0),(12,0),(13,0)]) (by kernel_rfl) ?_;refine d1 rfl K (Qb rfl) rfl rfl fun _ K=>d1 rfl K (JN rfl rfl) rfl rfl fun _ K=>d1 rfl K (Qf J6 rfl) rfl rfl fun _ K=>d1 rfl K (Qx rfl (Yt (M.Ar (by simp) h.row.Xg) (Qk UA rfl))) rfl rfl fun _ K=>d1 rfl K (Qb rfl) rfl rfl fun _ K=>d1 rfl K (JN rfl rfl) rfl rfl fun _ K=>d1 rfl K (Qf Jq rfl) rfl rfl fun _ K=>d1 rfl K (Qx rfl (Yt (M.Ar (by simp) h.row.Xg) (Qk QI rfl))) rfl rfl fun _ K=>d1 rfl K (Qb rfl) rfl rfl fun _ K=>?_;refine d1 rfl K (Jn rfl rfl (by omega) (by omega)) rfl rfl fun _ K=>?_;obtain⟨rc32,ra32,hr32,hd32⟩:=ZG (L:=L) (n:=(n+k)) (by omega);obtain⟨x32,m32,f32,q32,_,la32,lo32,lp32⟩:=(h.run.mem M (by simp)).load (i:=(n+k)) (cs:=_) (GJ hr32);refine d1 rfl K (Qr VF (congrArg some q32) rfl (by simp;omega)) rfl rfl fun _ K=>d1 rfl K (Qf Hr rfl) rfl rfl fun _ K=>d1 rfl K (Qx rfl (lo32 _ 1 _ QI rfl)) rfl rfl fun _ K=>d1 rfl K (QM rfl) rfl rfl fun _ K=>J0 ?_;show W _ _ _ _ _ _ _;refine Qe ⟨.inr rfl,_,JU K rfl,?_⟩;exact⟨by rw[H9 hr32],M.qt⟩

theorem Ro{st:St}(hf:Q6 st){g:Nat}{l:List Nat}{ks:AV}{L:List (Nat×Nat)}{bad:Option Nat}{n:Nat}(h:Oh st.h.get g l ks L bad n): ∃v st',Ev Tryz.prog Ja 133 [.ptr g 0 0,.int .i64 0] st v st'∧v=.int .i64 (Jr L n)∧Qt st st':=FM hf h 0 (by decide)
theorem ze{st:St}(hf:Q6 st){g:Nat}{l:List Nat}{ks:AV}{L:List (Nat×Nat)}{bad:Option Nat}{n:Nat}(h:Oh st.h.get g l ks L bad n)(c:Int): ∃v st',Ev Tryz.prog Ja 134 [.ptr g 0 0,.int .i64 0,.int .i32 c] st v st'∧v=.bool (Ia L n c)∧Qt st st':=GK hf h 0 (by decide) c
theorem xO{st:St}(hf:Q6 st){g:Nat}{l:List Nat}{ks:AV}{L:List (Nat×Nat)}{bad:Option Nat}{n:Nat}(h:Oh st.h.get g l ks L bad n): ∃v st',Ev Tryz.prog Ja 78 [.ptr g 0 0,.int .i64 0] st v st'∧v=.int .i64 ((QK l.length L n:Nat):Int)∧Qt st st':=M0 hf h 0 (by decide)

theorem BV{st:St}(hf:Q6 st){g:Nat}{l:List Nat}{ks:AV}{L:List (Nat×Nat)}{bad:Option Nat}{n:Nat}(h:Oh st.h.get g l ks L bad n): ∃v st',Ev Tryz.prog Ja 77 [.ptr g 0 0] st v st'∧v=.tup []∧Ag [g] st st'∧Oh st'.h.get g l ks L bad (n+Jl false (L.drop n)):=by
 have hrl:= @Wq L;have hfew:=h.few;have hle:=h.le;have hsz:=h.size;refine QC rfl Tryz.func77 rfl Tryz.ntmps77 rfl fun T hT=>?_;have K:Jm [(0,_)] T:=(.cons (hT 0) .nil);have M:=Mem.UP hf h.row;refine Uw ?_;refine U8 (fun mm1 T st9=> ∃(k:Nat),mm1=L.length-k∧Jm [(0,.ptr g 0 0)] T∧Mem st.h.get st.n [g] st9 [(g,0,[.str l,ks,.int .i64 (JE bad),.int .i64 (((k:Nat):Int))])]∧k≤L.length∧k+Jl false (L.drop k)=n+Jl false (L.drop n)) (fun mm1 T st9 hI=>?_) _ _ _ ⟨n,rfl,(.cons (K _ _ rfl) .nil),M.less (.refl _),h.le,rfl⟩;obtain⟨k,rfl,K,M,hk,hb⟩:=hI;refine EK (J:=fun T st9=>Jm [(0,.ptr g 0 0)] T∧Mem st.h.get st.n [g] st9 [(g,0,[.str l,ks,.int .i64 (JE bad),.int .i64 (((k:Nat):Int))])]∧(Jr L k=3∨Ia L k 35=true)) ?_ (fun T st9 hJ=>?_)
 ·refine Qg 1 K M ?_;intro _ K;refine oQ K M (Ro M.fresh (h.next (M.Qp (k:=0) rfl) (h.run.mem M (by simp)) (by omega))) rfl rfl fun _ _ K M=>?_;refine o1 K (Fm rfl rfl) rfl fun _ K=>?_;refine oB K (Qb rfl) rfl fun b6 _ e6 K=>?_;cases b6
  · replace e6:=of_decide_eq_false e6;refine og K rfl rfl (Qb rfl) rfl fun _ K=>?_;obtain⟨v8,st8,ev8,rfl,q8⟩:=ze M.fresh (h.next (M.Qp (k:=0) rfl) (h.run.mem M (by simp)) (by omega)) 35;refine og K rfl rfl (Qc rfl ev8) rfl fun _ K=>?_;replace M:=M.quiet q8;refine Qg 1 K M ?_;intro _ K;refine Qn (K.QR rfl) (fun h9=>?_) (fun h9=>?_)
    · refine QT ?_;exact⟨(.cons (K _ _ rfl) .nil),M.less (.refl _),(by first|exact .inl ‹_›|exact .inr ‹_›)⟩
    · refine Uc ?_;refine⟨.inl rfl,_,Xv,?_⟩;exact⟨rfl,M.U7,by rw[←hb,jg ‹_› (by simpa using‹_›)];exact h.next (M.Qp (k:=0) rfl) (h.run.mem M (by simp)) hk⟩
  · replace e6:=of_decide_eq_true e6;refine Qg 3 K M ?_;intro _ K;refine Qn (t:=true) (K.QR rfl) (fun _=>?_) (fun h=>by cases h);refine QT ?_;exact⟨(.cons (K _ _ rfl) .nil),M.less (.refl _),(by first|exact .inl ‹_›|exact .inr ‹_›)⟩
 ·obtain⟨K,M,hor⟩:=hJ;refine Qg 1 K M ?_;intro _ K;refine oQ K M (ze M.fresh (h.next (M.Qp (k:=0) rfl) (h.run.mem M (by simp)) (by omega)) 35) rfl rfl fun _ _ K M=>?_;refine Qg 5 K M ?_;intro _ K;refine o1 K (Jn rfl rfl (by omega) (by omega)) rfl fun _ K=>?_;refine au 3 K M ?_;intro _ _ K _ M
  have hlt:k<L.length:=by
   rcases hor with h|h
   · exact F4 (by omega)
   · exact Be h
  refine U8 (fun mm2 T st9=> ∃(j:Nat),mm2=L.length-j∧Jm [(0,.ptr g 0 0),(2,.bool (Ia L k 35))] T∧Mem st.h.get st.n [g] st9 [(g,0,[.str l,ks,.int .i64 (JE bad),.int .i64 (((j:Nat):Int))])]∧k+1≤j∧j≤L.length∧j+cG (Ia L k 35) (L.drop j)=k+1+cG (Ia L k 35) (L.drop (k+1))) (fun mm2 T st9 hI=>?_) _ _ _ ⟨k+1,rfl,(.cons (K _ _ rfl) (.cons (K _ _ rfl) .nil)),M.less (.refl _),(Nat.le_refl _),hlt,rfl⟩;obtain⟨j,rfl,K,M,hkj,hj,hc⟩:=hI;refine Qq<|Qq ?_;refine Jk (l:=[(0,0),(1,0),(2,0),(3,0),(4,0),(5,0),(6,0),(7,0),(8,0),(9,0),(10,0),(11,0),(12,0),(13,0),(14,0),(15,0),(16,0),(17,0)]) (by kernel_rfl) ?_;refine d1 rfl K (Qb rfl) rfl rfl fun _ K=>?_;refine dB rfl K (Qb rfl) rfl rfl fun b20 _ e20 K=>?_;cases b20
  · refine ZC rfl K rfl rfl rfl rfl fun _ _ K=>ZC rfl K rfl rfl rfl rfl fun _ _ K=>ZC rfl K rfl rfl rfl rfl fun _ _ K=>ZC rfl K rfl rfl rfl rfl fun _ _ K=>ZC rfl K rfl rfl rfl rfl fun _ _ K=>ZC rfl K rfl rfl rfl rfl fun _ _ K=>ZC rfl K rfl rfl rfl rfl fun _ _ K=>ZC rfl K rfl rfl rfl rfl fun _ _ K=>ZC rfl K rfl rfl rfl rfl fun _ _ K=>?_;refine ZC rfl K rfl rfl rfl rfl fun _ _ K=>d1 rfl K (UY rfl rfl rfl) rfl rfl fun _ K=>d1 rfl K (Qb rfl) rfl rfl fun _ K=>ZC rfl K rfl rfl rfl rfl fun _ _ K=>ZC rfl K rfl rfl rfl rfl fun _ _ K=>ZC rfl K rfl rfl rfl rfl fun _ _ K=>d1 rfl K (UY rfl rfl rfl) rfl rfl fun _ K=>J0 ?_;show W _ _ _ _ _ _ _;refine Qn (t:=false) (K.QR rfl) (fun h=>by cases h) (fun _=>?_);refine Uc ?_;have hc0:cG (Ia L k 35) (L.drop j)=0:=Bv (by first|exact .inl ‹_›|exact .inr (.inr ‹_›)|exact .inr (.inl (by omega)));have hb1:=Ip hor;rw[hc0,Nat.add_zero]at hc;rw[←hc]at hb1;exact⟨_,(by omega),j,rfl,(.cons (K _ _ rfl) .nil),M.less (.refl _),hj,(by omega)⟩
  · refine dg rfl K rfl rfl (Qb rfl) rfl rfl fun _ K=>dg rfl K rfl rfl (JN rfl rfl) rfl rfl fun _ K=>dg rfl K rfl rfl (Qf Jq rfl) rfl rfl fun _ K=>dg rfl K rfl rfl (Qx rfl (M.load (k:=0) rfl (Qk QI rfl))) rfl rfl fun _ K=>dg rfl K rfl rfl (Qb rfl) rfl rfl fun _ K=>dg rfl K rfl rfl (JN rfl rfl) rfl rfl fun _ K=>dg rfl K rfl rfl (Qf J6 rfl) rfl rfl fun _ K=>dg rfl K rfl rfl (Qx rfl (M.load (k:=0) rfl (Qk UA rfl))) rfl rfl fun _ K=>dg rfl K rfl rfl (Jd Z3 rfl rfl (h.run.mem M (by simp)).len) rfl rfl fun _ K=>?_;refine dg rfl K rfl rfl (Nr rfl rfl) rfl rfl fun _ K=>d1 rfl K (UY rfl rfl rfl) rfl rfl fun _ K=>?_;refine dB rfl K (Qb rfl) rfl rfl fun b32 _ e32 K=>?_;cases b32
    · replace e32:=of_decide_eq_false e32;refine ZC rfl K rfl rfl rfl rfl fun _ _ K=>ZC rfl K rfl rfl rfl rfl fun _ _ K=>ZC rfl K rfl rfl rfl rfl fun _ _ K=>d1 rfl K (UY rfl rfl rfl) rfl rfl fun _ K=>J0 ?_;show W _ _ _ _ _ _ _;refine Qn (t:=false) (K.QR rfl) (fun h=>by cases h) (fun _=>?_);refine Uc ?_;have hc0:cG (Ia L k 35) (L.drop j)=0:=Bv (by first|exact .inl ‹_›|exact .inr (.inr ‹_›)|exact .inr (.inl (by omega)));have hb1:=Ip hor;rw[hc0,Nat.add_zero]at hc;rw[←hc]at hb1;exact⟨_,(by omega),j,rfl,(.cons (K _ _ rfl) .nil),M.less (.refl _),hj,(by omega)⟩
    · replace e32:=of_decide_eq_true e32;refine dg rfl K rfl rfl (Qb rfl) rfl rfl fun _ K=>?_;obtain⟨v34,st34,ev34,rfl,q34⟩:=ze M.fresh (h.next (M.Qp (k:=0) rfl) (h.run.mem M (by simp)) (by omega)) 10;refine va rfl K rfl rfl (Qc rfl ev34) rfl rfl fun _ K=>?_;have Mp:=M;replace M:=M.quiet q34;refine dg rfl K rfl rfl (Nq rfl) rfl rfl fun _ K=>d1 rfl K (UY rfl rfl rfl) rfl rfl fun _ K=>J0 ?_;show W _ _ _ _ _ _ _;refine Qn (K.QR rfl) (fun h36=>?_) (fun h36=>?_)
      ·replace h36:(Ia L j 10)=false:=by simpa using h36
       refine Qg 4 K M ?_;intro _ K;refine o1 K (Jn rfl rfl (by omega) (by omega)) rfl fun _ K=>?_;refine au 3 K M ?_;intro _ _ K _ M;exact⟨_,(by omega),j+1,rfl,(.cons (K _ _ rfl) (.cons (K _ _ rfl) .nil)),M.less (.refl _),(by omega),(by omega),(by rw[e20]at hc ⊢;rw[xr (by omega) (by simpa using h36)]at hc;omega)⟩
      ·replace h36:(Ia L j 10)=true:=by simpa using h36
       refine Uc ?_;have hc0:cG (Ia L k 35) (L.drop j)=0:=Bv (by first|exact .inl ‹_›|exact .inr (.inr ‹_›)|exact .inr (.inl (by omega)));have hb1:=Ip hor;rw[hc0,Nat.add_zero]at hc;rw[←hc]at hb1;exact⟨_,(by omega),j,rfl,(.cons (K _ _ rfl) .nil),M.less (.refl _),hj,(by omega)⟩
end Go.Proofs.YtadjjadimlkkgaaGreatDoor
end
section
namespace Go.Proofs.YtadjjadimlkkgaaGreatDoor
open Go Go.RowKit

theorem Mem.xR{h0:Hp}{n0:Nat}{st:St}{M:List (Nat×Nat×List AV)}(hM:Mem h0 n0 [] st M){k c m:Nat}{l:List AV}(hk:M[k]? =some (c,m,l)):n0≤c:=by
 rcases hM.own c m l (List.mem_of_getElem? hk)with h|h
 ·exact h
 ·cases h
theorem Hv{α:Type} [BEq α]{l:List α}{i:Nat}{w t:α}(h:l[i]? =some w):(l.drop i).contains t=(t==w||(l.drop (i+1)).contains t):=by
 obtain⟨h1,h2⟩:=List.getElem?_eq_some_iff.1 h;rw[List.drop_eq_getElem_cons h1,List.contains_cons,h2]
theorem Av{a b:Nat}{L:List (Nat×Nat)}{n:Nat}(h:n<L.length):QK a L n=QK b L n:=by
 obtain⟨c,q,h1,_⟩:=ZG h;rw[H9 h1,H9 h1]
theorem NI{l:List Nat}:Jx (bytesOf l) none=l.length:=J9 l
theorem Rp{st:St}(hf:Q6 st){g:Nat}{l:List Nat}{ks:AV}{L:List (Nat×Nat)}{bad:Option Nat}{n:Nat}(h:Oh st.h.get g l ks L bad n)(hn:n<L.length): ∃v st',Ev Tryz.prog Ja 78 [.ptr g 0 0,.int .i64 0] st v st'∧v=.int .i64 ((QK (Jx (bytesOf l) bad) L n:Nat):Int)∧Qt st st':=by
 rw[Av (b:=l.length) hn];exact xO hf h
theorem z8{c:Nat}(h:QW (c:Int)=2):YN (c:Int)=true∧48≤c∧c≤57:=by
 have h:=Zo.1 h;refine⟨h,?_⟩;unfold YN at h;have h:=of_decide_eq_true h;omega
theorem MH{cap a:Nat}{c q:Nat}{r:List (Nat×Nat)}(h:YN (c:Int)=true):Ux cap a ((c,q)::r)=Ux cap (min (a *10+(c-48)) cap) r:=by rw[Ux,if_pos h]
theorem qT{c q:Nat}{r:List (Nat×Nat)}(h:YN (c:Int)=true):ZN ((c,q)::r)=ZN r+1:=by rw[ZN,if_pos h]
theorem MG{cap a:Nat}{L:List (Nat×Nat)}{j:Nat}(h:Jr L j≠2):Ux cap a (L.drop j)=a∧ZN (L.drop j)=0:=by
 by_cases hj:j<L.length
 ·obtain⟨c,q,h1,h2⟩:=ZG hj;rw[Xd h1]at h;have hd: ¬YN (c:Int)=true:=fun e=>h (Zo.2 e);rw[h2,Ux,ZN,if_neg hd,if_neg hd];exact⟨rfl,rfl⟩
 ·rw[List.drop_eq_nil_of_le (by omega)];exact⟨rfl,rfl⟩
theorem R8: ∀r:List (Nat×Nat),ZN r≤r.length:=by
 intro r
 induction r with
 |nil=>exact Nat.le_refl _
 |cons x r ih=>obtain⟨c,a⟩:=x;rw[ZN];split<;>simp<;>omega

theorem Sg{st:St}(hf:Q6 st): ∃v st',Ev Tryz.prog Ja 232 [] st v st'∧Dv st st' 1 v (VX.map fun w=>[.str w])∧Qt st st':=by
 refine QC rfl Tryz.func232 rfl Tryz.ntmps232 rfl fun T hT=>?_;have K:Jm [] T:=.nil;have M:=Mem.start hf;refine Qg 1 K M ?_;intro _ K;refine YK K M Zl XK rfl rfl rfl rfl rfl fun c1 _ _ K M=>?_;refine Qg 1 K M ?_;intro _ K;refine Qe ⟨.inr rfl,_,JU K rfl,?_⟩;exact⟨M.zp (L:=[]) (A:=[(c1,0,_)]) (B:=[]) (Acc.own (ls:=VX.map fun w=>[.str w]) (M.xR (k:=0) rfl) (by simp) (by decide)),M.qt⟩

theorem Mu{st:St}(hf:Q6 st)(t:List Nat): ∃v st',Ev Tryz.prog Ja 192 [.str t] st v st'∧v=.bool (VX.contains t)∧Qt st st':=by
 have hwl:(VX.map fun w=>[AV.str w]).length=17:=rfl;have hwl0:VX.length=17:=rfl;refine QC rfl Tryz.func192 rfl Tryz.ntmps192 rfl fun T hT=>?_;have K:Jm [(0,_)] T:=(.cons (hT 0) .nil);have M:=Mem.start hf;refine Qg 1 K M ?_;intro _ K;obtain⟨v5,st5,ev5,nr5,q5⟩:=Sg M.fresh;refine o1 K (Qc rfl ev5) rfl fun _ K=>?_;obtain⟨A5,hA5,M⟩:=M.FZ q5 nr5;refine Qg 2 K M ?_;intro _ K;refine U8 (fun mm1 T st9=> ∃(i:Nat),mm1=17-i∧Jm [(0,.str t),(3,v5),(4,.int .i64 (((i:Nat):Int)))] T∧Mem st.h.get st.n [] st9 (A5++[])∧i≤17∧VX.contains t=(VX.drop i).contains t) (fun mm1 T st9 hI=>?_) _ _ _ ⟨0,rfl,(.cons (K _ _ rfl) (.cons (K _ _ rfl) (.cons (K _ _ rfl) .nil))),M.less (.refl _),(by decide),rfl⟩;obtain⟨i,rfl,K,M,hi,hc⟩:=hI;refine Qg 2 K M ?_;intro _ K;refine o1 K (Jd Ur rfl rfl hA5.len) rfl fun _ K=>?_;refine Qg 1 K M ?_;intro _ K;refine Qn (K.QR rfl) (fun h9=>?_) (fun h9=>?_)
 ·replace h9:=of_decide_eq_true h9;refine Qg 2 K M ?_;intro _ K;obtain⟨w14,hw14⟩: ∃w,VX[i]? =some w:=⟨_,List.getElem?_eq_getElem (by rw[hwl0];omega)⟩;obtain⟨x14,m14,f14,q14,_,la14,lo14,lp14⟩:=(M.Lv (L:=[]) (A:=A5) (B:=[]) hA5).load (i:=i) (cs:=_) (by rw[List.getElem?_map,hw14];rfl);refine o1 K (Qr JK (congrArg some q14) rfl (by rw[hwl];omega)) rfl fun _ K=>o1 K (Qx rfl (lo14 _ 0 _ JI rfl)) rfl fun _ K=>?_;refine Qg 2 K M ?_;intro _ K;refine Qn (K.QR rfl) (fun h17=>?_) (fun h17=>?_)
  ·replace h17:=of_decide_eq_true h17;refine Qg 1 K M ?_;intro _ K;refine Qe ⟨.inr rfl,_,JU K rfl,?_⟩;exact⟨by rw[hc,Hv hw14,←h17,beq_self_eq_true];rfl,M.less (.refl _)|>.qt⟩
  ·replace h17:=of_decide_eq_false h17;refine Qg 1 K M ?_;intro _ K;refine o1 K (Jn rfl rfl (by omega) (by omega)) rfl fun _ K=>o1 K (QM rfl) rfl fun _ K=>Q5 ?_;exact⟨_,(by omega),i+1,rfl,(.cons (K _ _ rfl) (.cons (K _ _ rfl) (.cons (K _ _ rfl) .nil))),M.less (.refl _),(by omega),(by rw[hc,Hv hw14,beq_false_of_ne (fun e=>h17 e.symm)];rfl)⟩
 ·replace h9:=of_decide_eq_false h9;refine Uc ?_;show W _ _ _ _ _ _ _;refine Qg 1 K M ?_;intro _ K;refine Qe ⟨.inr rfl,_,JU K rfl,?_⟩;exact⟨by rw[hc,List.drop_eq_nil_of_le (by omega)];rfl,M.qt⟩

theorem My {st : St} (hf : Q6 st) {g : Nat} {l : List Nat} {ks : AV} {L : List (Nat × Nat)} {bad : Option Nat} {n : Nat} (h : Oh st.h.get g l ks L bad n) (hn : n < L.length) (hc : Jr L n = 1) : ∃ v st', Ev Tryz.prog Ja 135 [.ptr g 0 0] st v st' ∧ v = .tup [.agg [.int .i64 (if VX.contains ((l.drop (QK (Jx (bytesOf l) bad) L (n))).take (QK (Jx (bytesOf l) bad) L (n + Uy (L.drop n)) - QK (Jx (bytesOf l) bad) L (n))) then 3 else 1), .str ((l.drop (QK (Jx (bytesOf l) bad) L (n))).take (QK (Jx (bytesOf l) bad) L (n + Uy (L.drop n)) - QK (Jx (bytesOf l) bad) L (n))), .int .i64 0, .int .i64 ((QK (Jx (bytesOf l) bad) L (n) : Nat) : Int)], .bool (decide (((Uy (L.drop n) : Nat) : Int) ≤ 12))] ∧ Ag [g] st st' ∧ Oh st'.h.get g l ks L bad (n + Uy (L.drop n)) := by
 have hrl := @Wq L;have hfew := h.few;have hle := h.le;have hsz := h.size;have hml := N3 (L.drop n);have hdl := R8 (L.drop n);rw [List.length_drop] at hml hdl;refine QC rfl Tryz.func135 rfl Tryz.ntmps135 rfl fun T hT => ?_;have K : Jm [(0, _)] T := (.cons (hT 0) .nil);have M := Mem.UP hf h.row;refine Qq <| Qh ?_;refine U0 K M Zq (by decide) fun c2 _ _ K M => ?_;refine o1 K (QM rfl) rfl fun _ K => Q5 ?_;show W _ _ _ _ _ _ _;refine Qq <| Qh <| o1 K (QM rfl) rfl fun _ K => Q5 ?_;show W _ _ _ _ _ _ _;refine EK (J := fun T st9 => Jm [(0, .ptr g 0 0), (2, .ptr c2 0 0), (3, .bool false), (4, .int .i64 ((((Uy (L.drop n)) : Nat) : Int)))] T ∧ Mem st.h.get st.n [g] st9 [(c2, 0, [.int .i64 0, .str [], .int .i64 0, .int .i64 0]), (g, 0, [.str l, ks, .int .i64 (JE bad), .int .i64 (((n : Nat) : Int))])]) ?_ (fun T st9 hJ => ?_)
 · refine Uw ?_;refine U8 (fun mm1 T st9 => ∃ (j : Nat), mm1 = Uy (L.drop n) - j ∧ Jm [(0, .ptr g 0 0), (2, .ptr c2 0 0), (3, .bool false), (4, .int .i64 (((j : Nat) : Int)))] T ∧ Mem st.h.get st.n [g] st9 [(c2, 0, [.int .i64 0, .str [], .int .i64 0, .int .i64 0]), (g, 0, [.str l, ks, .int .i64 (JE bad), .int .i64 (((n : Nat) : Int))])] ∧ j + Uy (L.drop (n + j)) = Uy (L.drop n)) (fun mm1 T st9 hI => ?_) _ _ _ ⟨0, rfl, (.cons (K _ _ rfl) (.cons (K _ _ rfl) (.cons (K _ _ rfl) (.cons (K _ _ rfl) .nil)))), M.less (.refl _), (by rw [Nat.add_zero, Nat.zero_add])⟩;obtain ⟨j, rfl, K, M, hj⟩ := hI;refine Qg 2 K M ?_;intro _ K;obtain ⟨v9, st9, ev9, rfl, q9⟩ := FM M.fresh (h.next (M.Qp (k := 1) rfl) (h.run.mem M (by simp)) (by omega)) j (by omega);refine o1 K (Qc rfl ev9) rfl fun _ K => ?_;replace M := M.quiet q9;refine o1 K (Fm rfl rfl) rfl fun _ K => ?_;refine oB K (Qb rfl) rfl fun b11 _ e11 K => ?_;cases b11
   · replace e11 := of_decide_eq_false e11;refine Qg 2 K M ?_;intro _ K;refine xz K rfl rfl (Qb rfl) rfl fun b14 _ e14 K => ?_;cases b14
     · replace e14 := of_decide_eq_false e14;refine Qg 11 K M ?_;intro _ K;refine Qn (t := false) (K.QR rfl) (fun h => by cases h) (fun _ => ?_);refine Uc ?_
       have hm : Uy (L.drop (n + j)) = 0 := by
              first
                | exact Cm ‹_› ‹_› ‹_›
                | (exfalso; obtain rfl : j = 0 := by omega
                   exact absurd hc ‹_›)
       obtain rfl : j = Uy (L.drop n) := by omega
       exact ⟨(.cons (K _ _ rfl) (.cons (K _ _ rfl) (.cons (K _ _ rfl) (.cons (K _ _ rfl) .nil)))), M.less (.refl _)⟩
     · replace e14 := of_decide_eq_true e14;refine Qg 2 K M ?_;intro _ K;obtain ⟨v17, st17, ev17, rfl, q17⟩ := FM M.fresh (h.next (M.Qp (k := 1) rfl) (h.run.mem M (by simp)) (by omega)) j (by omega);refine og K rfl rfl (Qc rfl ev17) rfl fun _ K => ?_;replace M := M.quiet q17;refine og K rfl rfl (Fm rfl rfl) rfl fun _ K => ?_;refine xz K rfl rfl (Qb rfl) rfl fun b19 _ e19 K => ?_;cases b19
       · replace e19 := of_decide_eq_false e19;refine Qg 2 K M ?_;intro _ K;obtain ⟨v22, st22, ev22, rfl, q22⟩ := GK M.fresh (h.next (M.Qp (k := 1) rfl) (h.run.mem M (by simp)) (by omega)) j (by omega) 39;refine og K rfl rfl (Qc rfl ev22) rfl fun _ K => ?_;replace M := M.quiet q22;refine Qg 3 K M ?_;intro _ K;refine Qn (K.QR rfl) (fun h25 => ?_) (fun h25 => ?_)
         · refine Qg 1 K M ?_;intro _ K;refine o1 K (Jn rfl rfl (by omega) (by omega)) rfl fun _ K => o1 K (QM rfl) rfl fun _ K => Q5 ?_;have hm := Kv (L := L) (j := n + j) (by first | exact .inl ‹_› | exact .inr (.inl ‹_›) | exact .inr (.inr ‹_›));exact ⟨_, (by omega), j + 1, rfl, (.cons (K _ _ rfl) (.cons (K _ _ rfl) (.cons (K _ _ rfl) (.cons (K _ _ rfl) .nil)))), M.less (.refl _), (by rw [← Nat.add_assoc]; omega)⟩
         · refine Uc ?_
           have hm : Uy (L.drop (n + j)) = 0 := by
              first
                | exact Cm ‹_› ‹_› ‹_›
                | (exfalso; obtain rfl : j = 0 := by omega
                   exact absurd hc ‹_›)
           obtain rfl : j = Uy (L.drop n) := by omega
           exact ⟨(.cons (K _ _ rfl) (.cons (K _ _ rfl) (.cons (K _ _ rfl) (.cons (K _ _ rfl) .nil)))), M.less (.refl _)⟩
       · replace e19 := of_decide_eq_true e19;refine Qg 6 K M ?_;intro _ K;refine Qn (t := true) (K.QR rfl) (fun _ => ?_) (fun h => by cases h);refine Qg 1 K M ?_;intro _ K;refine o1 K (Jn rfl rfl (by omega) (by omega)) rfl fun _ K => o1 K (QM rfl) rfl fun _ K => Q5 ?_;have hm := Kv (L := L) (j := n + j) (by first | exact .inl ‹_› | exact .inr (.inl ‹_›) | exact .inr (.inr ‹_›));exact ⟨_, (by omega), j + 1, rfl, (.cons (K _ _ rfl) (.cons (K _ _ rfl) (.cons (K _ _ rfl) (.cons (K _ _ rfl) .nil)))), M.less (.refl _), (by rw [← Nat.add_assoc]; omega)⟩
   · replace e11 := of_decide_eq_true e11;refine Qg 14 K M ?_;intro _ K;refine Qn (t := true) (K.QR rfl) (fun _ => ?_) (fun h => by cases h);refine Qg 1 K M ?_;intro _ K;refine o1 K (Jn rfl rfl (by omega) (by omega)) rfl fun _ K => o1 K (QM rfl) rfl fun _ K => Q5 ?_;have hm := Kv (L := L) (j := n + j) (by first | exact .inl ‹_› | exact .inr (.inl ‹_›) | exact .inr (.inr ‹_›));exact ⟨_, (by omega), j + 1, rfl, (.cons (K _ _ rfl) (.cons (K _ _ rfl) (.cons (K _ _ rfl) (.cons (K _ _ rfl) .nil)))), M.less (.refl _), (by rw [← Nat.add_assoc]; omega)⟩
 · obtain ⟨K, M⟩ := hJ;refine Qg 1 K M ?_;intro _ K;refine oQ K M (Rp M.fresh (h.next (M.Qp (k := 1) rfl) (h.run.mem M (by simp)) (by omega)) (by omega)) rfl rfl fun _ _ K M => ?_;refine o1 K (Qz Zu rfl rfl) rfl fun _ K => ?_;refine au 4 K M ?_;intro c5 _ _ K _ M;refine oQ K M (M0 M.fresh (h.next (M.Qp (k := 2) rfl) (h.run.mem M (by simp)) (by omega)) ((Uy (L.drop n))) (by omega)) rfl rfl fun _ _ K M => ?_;refine o1 K (QM rfl) rfl fun _ K => Q5 ?_;show W _ _ _ _ _ _ _;refine EK (J := fun T st9 => ∃ (z : Int), Jm [(0, .ptr g 0 0), (2, .ptr c2 0 0), (3, .bool false), (4, .int .i64 ((((Uy (L.drop n)) : Nat) : Int))), (5, .ptr c5 0 0), (6, .int .i64 z)] T ∧ Mem st.h.get st.n [g] st9 [(c5, 0, [.int .i64 1, .str [], .int .i64 0, .int .i64 (((QK (Jx (bytesOf l) bad) L (n) : Nat) : Int))]), (c2, 0, [.int .i64 0, .str [], .int .i64 0, .int .i64 0]), (g, 0, [.str l, ks, .int .i64 (JE bad), .int .i64 (((n : Nat) : Int))])] ∧ z = ((QK (Jx (bytesOf l) bad) L (n + Uy (L.drop n)) : Nat) : Int)) ?_ (fun T st9 hJ => ?_)
   · refine Qq ?_;refine Jk (l := [(0, 0), (1, 0), (2, 0), (3, 0), (4, 0), (5, 0), (6, 0), (7, 0), (8, 0), (9, 0), (10, 0), (11, 0), (12, 0), (13, 0), (14, 0), (15, 0), (16, 0), (17, 0), (18, 0)]) (by kernel_rfl) ?_;refine d1 rfl K (Qb rfl) rfl rfl fun _ K => d1 rfl K (JN rfl rfl) rfl rfl fun _ K => d1 rfl K (Qf Jq rfl) rfl rfl fun _ K => d1 rfl K (Qx rfl (M.load (k := 2) rfl (Qk QI rfl))) rfl rfl fun _ K => d1 rfl K (Qb rfl) rfl rfl fun _ K => d1 rfl K (Jn rfl rfl (by omega) (by omega)) rfl rfl fun _ K => d1 rfl K (Qb rfl) rfl rfl fun _ K => d1 rfl K (JN rfl rfl) rfl rfl fun _ K => d1 rfl K (Qf J6 rfl) rfl rfl fun _ K => ?_;refine d1 rfl K (Qx rfl (M.load (k := 2) rfl (Qk UA rfl))) rfl rfl fun _ K => d1 rfl K (Jd Z3 rfl rfl (h.run.mem M (by simp)).len) rfl rfl fun _ K => d1 rfl K (HG rfl rfl) rfl rfl fun _ K => ?_;refine dB rfl K (Qb rfl) rfl rfl fun b46 _ e46 K => ?_;cases b46
     · replace e46 := of_decide_eq_false e46;refine ZC rfl K rfl rfl rfl rfl fun _ _ K => ZC rfl K rfl rfl rfl rfl fun _ _ K => ZC rfl K rfl rfl rfl rfl fun _ _ K => ZC rfl K rfl rfl rfl rfl fun _ _ K => ZC rfl K rfl rfl rfl rfl fun _ _ K => d1 rfl K (UY rfl rfl rfl) rfl rfl fun _ K => J0 ?_;show W _ _ _ _ _ _ _;refine Qn (t := false) (K.QR rfl) (fun h => by cases h) (fun _ => ?_);refine QT ?_
       exact ⟨_, (.cons (K _ _ rfl) (.cons (K _ _ rfl) (.cons (K _ _ rfl) (.cons (K _ _ rfl) (.cons (K _ _ rfl) (.cons (K _ _ rfl) .nil)))))), M.less (.refl _), (by first
              | (rw [Av (by omega)])
              | (obtain ⟨q, rfl⟩ := IX ‹_›; rw [Za (by omega)]; rfl)
              | (rw [IY (bad := bad) ‹_›, Za (by omega), Za (by omega), NI]))⟩
     · replace e46 := of_decide_eq_true e46;refine dg rfl K rfl rfl (Qb rfl) rfl rfl fun _ K => dg rfl K rfl rfl (JN rfl rfl) rfl rfl fun _ K => dg rfl K rfl rfl (Qf ZB rfl) rfl rfl fun _ K => dg rfl K rfl rfl (Qx rfl (M.load (k := 2) rfl (Qk QI rfl))) rfl rfl fun _ K => dg rfl K rfl rfl (HG rfl rfl) rfl rfl fun _ K => d1 rfl K (UY rfl rfl rfl) rfl rfl fun _ K => J0 ?_;show W _ _ _ _ _ _ _;refine Qn (K.QR rfl) (fun h52 => ?_) (fun h52 => ?_)
       · replace h52 := of_decide_eq_true h52;refine Qg 5 K M ?_;intro _ K
         exact ⟨_, (.cons (K _ _ rfl) (.cons (K _ _ rfl) (.cons (K _ _ rfl) (.cons (K _ _ rfl) (.cons (K _ _ rfl) (.cons (K _ _ rfl) .nil)))))), M.less (.refl _), (by first
              | (rw [Av (by omega)])
              | (obtain ⟨q, rfl⟩ := IX ‹_›; rw [Za (by omega)]; rfl)
              | (rw [IY (bad := bad) ‹_›, Za (by omega), Za (by omega), NI]))⟩
       · replace h52 := of_decide_eq_false h52;refine QT ?_
         exact ⟨_, (.cons (K _ _ rfl) (.cons (K _ _ rfl) (.cons (K _ _ rfl) (.cons (K _ _ rfl) (.cons (K _ _ rfl) (.cons (K _ _ rfl) .nil)))))), M.less (.refl _), (by first
              | (rw [Av (by omega)])
              | (obtain ⟨q, rfl⟩ := IX ‹_›; rw [Za (by omega)]; rfl)
              | (rw [IY (bad := bad) ‹_›, Za (by omega), Za (by omega), NI]))⟩
   · obtain ⟨z, K, M, rfl⟩ := hJ;refine Qq ?_;refine Jk (l := [(0, 0), (1, 0), (2, 0), (3, 0), (4, 0), (5, 0), (6, 0), (7, 0), (8, 0), (9, 0)]) (by kernel_rfl) ?_;refine d1 rfl K (Qb rfl) rfl rfl fun _ K => d1 rfl K (JN rfl rfl) rfl rfl fun _ K => d1 rfl K (Qf Vu rfl) rfl rfl fun _ K => d1 rfl K (Qx rfl (M.load (k := 2) rfl (Qk JI rfl))) rfl rfl fun _ K => d1 rfl K (Qf JD rfl) rfl rfl fun _ K => d1 rfl K (Qx rfl (M.load (k := 0) rfl (Qk QI rfl))) rfl rfl fun _ K => d1 rfl K (Qb rfl) rfl rfl fun _ K => d1 rfl K (Sv (a := (QK (Jx (bytesOf l) bad) L (n))) (b := (QK (Jx (bytesOf l) bad) L (n + Uy (L.drop n)))) UI rfl rfl rfl (h.mono n (n + Uy (L.drop n)) (by omega)).1 (h.mono n (n + Uy (L.drop n)) (by omega)).2) rfl rfl fun _ K => d1 rfl K (Qf Vj rfl) rfl rfl fun _ K => ?_;refine JX (k := 0) rfl K M rfl rfl rfl OJ rfl rfl rfl fun _ M => ?_;refine J0 ?_;show W _ _ _ _ _ _ _;refine Qg 6 K M ?_;intro _ K;refine o1 K (Jn rfl rfl (by omega) (by omega)) rfl fun _ K => ?_;refine au 5 K M ?_;intro _ _ K _ M;refine oQ K M (Mu M.fresh (((l).drop (QK (Jx (bytesOf l) bad) L (n))).take (QK (Jx (bytesOf l) bad) L (n + Uy (L.drop n)) - QK (Jx (bytesOf l) bad) L (n)))) rfl rfl fun _ _ K M => ?_;refine Q5 ?_;show W _ _ _ _ _ _ _;refine Qn (K.QR rfl) (fun h77 => ?_) (fun h77 => ?_)
     · refine au 7 K M ?_;intro _ _ K _ M;refine Qe ⟨.inr rfl, _, (YC (Uk K rfl (M.load (k := 1) rfl (QG UF rfl))) (QY K rfl)), ?_⟩;exact ⟨(by rw [if_pos h77]), M.U7, h.next (M.Qp (k := 2) rfl) (h.run.mem M (by simp)) (by omega)⟩
     · refine au 5 K M ?_;intro _ _ K _ M;refine Qe ⟨.inr rfl, _, (YC (Uk K rfl (M.load (k := 1) rfl (QG UF rfl))) (QY K rfl)), ?_⟩;exact ⟨(by rw [if_neg (by rw [h77]; decide)]), M.U7, h.next (M.Qp (k := 2) rfl) (h.run.mem M (by simp)) (by omega)⟩

theorem DI{st:St}(hf:Q6 st){g:Nat}{l:List Nat}{ks:AV}{L:List (Nat×Nat)}{bad:Option Nat}{n:Nat}(h:Oh st.h.get g l ks L bad n)(hn:n<L.length): ∃v st',Ev Tryz.prog Ja 136 [.ptr g 0 0] st v st'∧v=.tup [.agg [.int .i64 2,.str [],.int .i64 ((Ux 1000 0 (L.drop n):Nat):Int),.int .i64 ((QK (Jx (bytesOf l) bad) L (n):Nat):Int)],.bool (decide (((Ux 1000 0 (L.drop n):Nat):Int)≤99)&& !(Ia L n 48&&decide (1<((ZN (L.drop n):Nat):Int))))]∧Ag [g] st st'∧Oh st'.h.get g l ks L bad (n+ZN (L.drop n)):=by
 have hrl:= @Wq L;have hfew:=h.few;have hle:=h.le;have hsz:=h.size;have hml:=N3 (L.drop n);have hdl:=R8 (L.drop n);rw[List.length_drop]at hml hdl;refine QC rfl Tryz.func136 rfl Tryz.ntmps136 rfl fun T hT=>?_;have K:Jm [(0,_)] T:=(.cons (hT 0) .nil);have M:=Mem.UP hf h.row;refine au 3 K M ?_;intro c2 _ _ K _ M;refine oQ K M (Rp M.fresh (h.next (M.Qp (k:=1) rfl) (h.run.mem M (by simp)) (by omega)) (by omega)) rfl rfl fun _ _ K M=>?_;refine o1 K (Qz Zu rfl rfl) rfl fun _ K=>?_;refine au 3 K M ?_;intro c4 _ _ K _ M;refine oQ K M (GK M.fresh (h.next (M.Qp (k:=2) rfl) (h.run.mem M (by simp)) (by omega)) 0 (by omega) 48) rfl rfl fun _ _ K M=>?_;refine o1 K (QM rfl) rfl fun _ K=>Q5 ?_;show W _ _ _ _ _ _ _;refine Qq<|Qh<|o1 K (QM rfl) rfl fun _ K=>Q5 ?_;show W _ _ _ _ _ _ _;refine EK (J:=fun T st9=>Jm [(0,.ptr g 0 0),(2,.ptr c2 0 0),(3,.bool false),(4,.ptr c4 0 0),(5,.bool (Ia L (n+0) 48)),(6,.int .i64 ((((ZN (L.drop n)):Nat):Int)))] T∧Mem st.h.get st.n [g] st9 [(c4,0,[.int .i64 2,.str [],.int .i64 ((((Ux 1000 0 (L.drop n)):Nat):Int)),.int .i64 (((QK (Jx (bytesOf l) bad) L (n):Nat):Int))]),(c2,0,[.int .i64 0,.str [],.int .i64 0,.int .i64 0]),(g,0,[.str l,ks,.int .i64 (JE bad),.int .i64 (((n:Nat):Int))])]) ?_ (fun T st9 hJ=>?_)
 ·refine Uw ?_;refine U8 (fun mm1 T st9=> ∃(j a:Nat),mm1=ZN (L.drop n)-j∧Jm [(0,.ptr g 0 0),(2,.ptr c2 0 0),(3,.bool false),(4,.ptr c4 0 0),(5,.bool (Ia L (n+0) 48)),(6,.int .i64 (((j:Nat):Int)))] T∧Mem st.h.get st.n [g] st9 [(c4,0,[.int .i64 2,.str [],.int .i64 (((a:Nat):Int)),.int .i64 (((QK (Jx (bytesOf l) bad) L (n):Nat):Int))]),(c2,0,[.int .i64 0,.str [],.int .i64 0,.int .i64 0]),(g,0,[.str l,ks,.int .i64 (JE bad),.int .i64 (((n:Nat):Int))])]∧a≤1000∧Ux 1000 a (L.drop (n+j))=Ux 1000 0 (L.drop n)∧j+ZN (L.drop (n+j))=ZN (L.drop n)) (fun mm1 T st9 hI=>?_) _ _ _ ⟨0,0,rfl,(.cons (K _ _ rfl) (.cons (K _ _ rfl) (.cons (K _ _ rfl) (.cons (K _ _ rfl) (.cons (K _ _ rfl) (.cons (K _ _ rfl) .nil)))))),M.less (.refl _),(by decide),rfl,(by rw[Nat.add_zero,Nat.zero_add])⟩;obtain⟨j,a,rfl,K,M,ha,hnum,hdig⟩:=hI;refine Qg 2 K M ?_;intro _ K;refine oQ K M (FM M.fresh (h.next (M.Qp (k:=2) rfl) (h.run.mem M (by simp)) (by omega)) j (by omega)) rfl rfl fun _ _ K M=>?_;refine Qg 1 K M ?_;intro _ K;refine Qn (K.QR rfl) (fun h15=>?_) (fun h15=>?_)
  ·replace h15:=of_decide_eq_true h15;refine QT ?_;show W _ _ _ _ _ _ _;refine Uw<|Qq ?_;refine Jk (l:=[(0,0),(1,0),(2,0),(3,0),(4,0),(5,0),(6,0),(7,0),(8,0),(9,0),(10,0),(11,0),(12,0),(13,0),(14,0),(15,0),(16,0),(17,0),(18,0),(19,0),(20,0),(21,0)]) (by kernel_rfl) ?_;refine d1 rfl K (Qf WU rfl) rfl rfl fun _ K=>d1 rfl K (Qx rfl (M.load (k:=0) rfl (Qk QI rfl))) rfl rfl fun _ K=>d1 rfl K (um (c:=10 *((a:Nat):Int)) rfl rfl (IntWalk.i64_in _ (by omega))) rfl rfl fun _ K=>d1 rfl K (Qb rfl) rfl rfl fun _ K=>d1 rfl K (JN rfl rfl) rfl rfl fun _ K=>d1 rfl K (Qf J6 rfl) rfl rfl fun _ K=>d1 rfl K (Qx rfl (M.load (k:=2) rfl (Qk UA rfl))) rfl rfl fun _ K=>d1 rfl K (Qb rfl) rfl rfl fun _ K=>d1 rfl K (JN rfl rfl) rfl rfl fun _ K=>?_;refine d1 rfl K (Qf Jq rfl) rfl rfl fun _ K=>d1 rfl K (Qx rfl (M.load (k:=2) rfl (Qk QI rfl))) rfl rfl fun _ K=>d1 rfl K (Qb rfl) rfl rfl fun _ K=>d1 rfl K (Jn rfl rfl (by omega) (by omega)) rfl rfl fun _ K=>?_
   have hn29:(n+j)<L.length:=by first|omega|exact F4 (by omega)
   obtain⟨rc29,ra29,hr29,hd29⟩:=ZG hn29;have hg29:=z8 (c:=rc29) (by first|(rw[←Xd hr29];assumption));obtain⟨x29,m29,f29,q29,_,la29,lo29,lp29⟩:=(h.run.mem M (by simp)).load (i:=(n+j)) (cs:=_) (GJ hr29);refine d1 rfl K (Qr VF (congrArg some q29) rfl (by rw[Wq];exact hn29)) rfl rfl fun _ K=>d1 rfl K (Qf VD rfl) rfl rfl fun _ K=>d1 rfl K (Qx rfl (lo29 _ 0 _ I1 rfl)) rfl rfl fun _ K=>d1 rfl K (uk (c:=(rc29:Int)-48) rfl rfl (IntWalk.i32_in _ (by omega))) rfl rfl fun _ K=>d1 rfl K (Ch (c:=((rc29:Int)-48)) G6 BB rfl (IntWalk.i64_in _ (by omega))) rfl rfl fun _ K=>d1 rfl K (Jn rfl rfl (by omega) (by omega)) rfl rfl fun _ K=>d1 rfl K (zh rfl rfl) rfl rfl fun _ K=>d1 rfl K (Qf WU rfl) rfl rfl fun _ K=>?_;refine JX (k:=0) rfl K M rfl rfl rfl DD rfl rfl rfl fun _ M=>?_;refine J0 ?_;show W _ _ _ _ _ _ _;refine Qh<|o1 K (Qb rfl) rfl fun _ K=>o1 K (Jn rfl rfl (by omega) (by omega)) rfl fun _ K=>o1 K (QM rfl) rfl fun _ K=>Q5 ?_;rw[show((min (((10 *((a:Nat):Int))+((rc29:Int)-48))) 1000))=((min (a *10+(rc29-48)) 1000:Nat):Int) by omega]at M;rw[hd29,MH hg29.1]at hnum;rw[hd29,qT hg29.1]at hdig;exact⟨_,(by omega),j+1,min (a *10+(rc29-48)) 1000,rfl,(.cons (K _ _ rfl) (.cons (K _ _ rfl) (.cons (K _ _ rfl) (.cons (K _ _ rfl) (.cons (K _ _ rfl) (.cons (K _ _ rfl) .nil)))))),M.less (.refl _),(Nat.min_le_right _ _),hnum,(by rw[←Nat.add_assoc];omega)⟩
  ·replace h15:=of_decide_eq_false h15;refine Uc ?_;obtain⟨hs1,hs2⟩:=MG (cap:=1000) (a:=a) ‹Jr L (n+j)≠2›
   obtain rfl:a=Ux 1000 0 (L.drop n):=by omega
   obtain rfl:j=ZN (L.drop n):=by omega
   exact⟨(.cons (K _ _ rfl) (.cons (K _ _ rfl) (.cons (K _ _ rfl) (.cons (K _ _ rfl) (.cons (K _ _ rfl) (.cons (K _ _ rfl) .nil)))))),M.less (.refl _)⟩
 ·obtain⟨K,M⟩:=hJ;refine Qg 6 K M ?_;intro _ K;refine o1 K (Jn rfl rfl (by omega) (by omega)) rfl fun _ K=>?_;refine au 7 K M ?_;intro _ _ K _ M;refine oB K (Qb rfl) rfl fun b52 _ e52 K=>?_;cases b52
  ·replace e52:=of_decide_eq_false e52;refine au 9 K M ?_;intro _ _ K _ M;refine Qe ⟨.inr rfl,_,(YC (Uk K rfl (M.load (k:=1) rfl (QG UF rfl))) (QY K rfl)),?_⟩
   exact⟨congrArg AV.tup (congrArg (fun b=>[AV.agg _,AV.bool b]) (by simp_all [Qu]<;>(intro h0;omega))),M.U7,h.next (M.Qp (k:=2) rfl) (h.run.mem M (by simp)) (by omega)⟩
  ·replace e52:=of_decide_eq_true e52;refine og K rfl rfl (Qb rfl) rfl fun _ K=>?_;refine xz K rfl rfl (Qb rfl) rfl fun b54 _ e54 K=>?_;cases b54
   ·refine au 7 K M ?_;intro _ _ K _ M;refine Qe ⟨.inr rfl,_,(YC (Uk K rfl (M.load (k:=1) rfl (QG UF rfl))) (QY K rfl)),?_⟩
    exact⟨congrArg AV.tup (congrArg (fun b=>[AV.agg _,AV.bool b]) (by simp_all [Qu]<;>(intro h0;omega))),M.U7,h.next (M.Qp (k:=2) rfl) (h.run.mem M (by simp)) (by omega)⟩
   ·refine au 7 K M ?_;intro _ _ K _ M;refine Qe ⟨.inr rfl,_,(YC (Uk K rfl (M.load (k:=1) rfl (QG UF rfl))) (QY K rfl)),?_⟩
    exact⟨congrArg AV.tup (congrArg (fun b=>[AV.agg _,AV.bool b]) (by simp_all [Qu]<;>(intro h0;omega))),M.U7,h.next (M.Qp (k:=2) rfl) (h.run.mem M (by simp)) (by omega)⟩
end Go.Proofs.YtadjjadimlkkgaaGreatDoor
end
