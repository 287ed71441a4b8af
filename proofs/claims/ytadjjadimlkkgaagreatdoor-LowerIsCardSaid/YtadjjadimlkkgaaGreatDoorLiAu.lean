/-
  Straight runs of operations in one step.
-/
import Derived.Test.YtadjjadimlkkgaaGreatDoorLiTyg
namespace Go.Proofs.YtadjjadimlkkgaaGreatDoor
open Go Go.RowKit
set_option linter.unusedVariables false
set_option linter.unusedSectionVars false

class FO(P:Program)(t:TypeId)(f:Nat)(o:outParam Nat):Prop where
 h:QR P t f=some o
class T1(P:Program)(t:TypeId):Prop where
 h:tk P t=.one
class TA(P:Program)(t:TypeId)(n:outParam Nat):Prop where
 h:tk P t=.agg n
class ZE(P:Program)(t:TypeId)(l:outParam (List AV)):Prop where
 h:zeroOf P t=some l
instance :FO Tryz.prog 26 0 0:=⟨ZK⟩
instance :FO Tryz.prog 26 1 1:=⟨Vm⟩
instance :FO Tryz.prog 26 2 2:=⟨Vl⟩
instance :FO Tryz.prog 26 3 3:=⟨Vk⟩
instance :FO Tryz.prog 26 4 4:=⟨E8⟩
instance :FO Tryz.prog 28 0 0:=⟨KC⟩
instance :FO Tryz.prog 28 1 1:=⟨KA⟩
instance :FO Tryz.prog 28 2 2:=⟨Kz⟩
instance :FO Tryz.prog 69 0 0:=⟨KF⟩
instance :FO Tryz.prog 69 1 1:=⟨E7⟩
instance :FO Tryz.prog 69 2 2:=⟨KE⟩
instance :FO Tryz.prog 69 3 7:=⟨KD⟩
instance :FO Tryz.prog 102 0 0:=⟨Vn⟩
instance :FO Tryz.prog 102 1 1:=⟨E9⟩
instance :FO Tryz.prog 102 2 2:=⟨KG⟩
instance :FO Tryz.prog 75 0 0:=⟨IJ⟩
instance :FO Tryz.prog 75 1 1:=⟨II⟩
instance :FO Tryz.prog 47 0 0:=⟨KM⟩
instance :FO Tryz.prog 47 1 1:=⟨KL⟩
instance :FO Tryz.prog 47 2 2:=⟨KK⟩
instance :FO Tryz.prog 47 3 3:=⟨KJ⟩
instance :FO Tryz.prog 47 4 4:=⟨KI⟩
instance :FO Tryz.prog 47 5 5:=⟨KH⟩
instance :FO Tryz.prog 81 0 0:=⟨YT⟩
instance :FO Tryz.prog 100 0 0:=⟨YS⟩
instance :FO Tryz.prog 100 1 1:=⟨EW⟩
instance :FO Tryz.prog 198 0 0:=⟨Ho⟩
instance :FO Tryz.prog 198 1 1:=⟨Hn⟩
instance :T1 Tryz.prog 3:=⟨JP⟩
instance :T1 Tryz.prog 4:=⟨Mm⟩
instance :T1 Tryz.prog 9:=⟨QY⟩
instance :T1 Tryz.prog 24:=⟨E0⟩
instance :TA Tryz.prog 26 5:=⟨Ji⟩
instance :T1 Tryz.prog 22:=⟨ZI⟩
instance :T1 Tryz.prog 23:=⟨YB⟩
instance :TA Tryz.prog 28 7:=⟨O8⟩
instance :TA Tryz.prog 69 8:=⟨XR⟩
instance :T1 Tryz.prog 41:=⟨ZO⟩
instance :TA Tryz.prog 102 3:=⟨ZN⟩
instance :T1 Tryz.prog 45:=⟨Ku⟩
instance :TA Tryz.prog 47 6:=⟨Jb⟩
instance :T1 Tryz.prog 98:=⟨X4⟩
instance :TA Tryz.prog 164 2:=⟨Fk⟩
instance :T1 Tryz.prog 190:=⟨YJ⟩
instance :TA Tryz.prog 198 7:=⟨Ez⟩
instance :ZE Tryz.prog 3 [.int .i64 0]:=⟨Nf⟩
instance :ZE Tryz.prog 9 [.str []]:=⟨Xw⟩
instance :ZE Tryz.prog 26 [.str [],.str [],.int .i64 0,.int .i64 0,.nils]:=⟨YX⟩
instance :ZE Tryz.prog 28 [.nils,.nils,.str [],.str [],.int .i64 0,.int .i64 0,.nils]:=⟨FE⟩
instance :ZE Tryz.prog 69 [.str [],.nils,.str [],.str [],.int .i64 0,.int .i64 0,.nils,.int .i64 0]:=⟨XP⟩
instance :ZE Tryz.prog 102 [.str [],.int .i64 0,.int .i64 0]:=⟨YY⟩
instance :ZE Tryz.prog 47 [.str [],.int .i64 0,.int .i64 0,.int .i64 0,.int .i64 0,.nils]:=⟨Ul⟩
instance :ZE Tryz.prog 81 [.nils]:=⟨Vv⟩
instance :ZE Tryz.prog 100 [.nils,.bool false]:=⟨Vu⟩
instance :ZE Tryz.prog 164 [.int .i64 0,.int .i64 0]:=⟨Xx⟩
instance :ZE Tryz.prog 190 [.nils]:=⟨Hj⟩
instance :ZE Tryz.prog 198 [.int .i64 0,.str [],.int .i64 0,.int .i64 0,.int .i64 0,.int .i64 0,.nils]:=⟨ZG⟩
class SZ(P:Program)(t:TypeId)(n:outParam Nat):Prop where
 h:Za P t=some n
instance :SZ Tryz.prog 3 1:=⟨jH⟩
instance :SZ Tryz.prog 4 1:=⟨Mv⟩
instance :SZ Tryz.prog 26 5:=⟨UF⟩
instance :SZ Tryz.prog 23 1:=⟨E1⟩
instance :SZ Tryz.prog 69 8:=⟨FK⟩
instance :SZ Tryz.prog 41 1:=⟨XS⟩
instance :SZ Tryz.prog 102 3:=⟨OE⟩
instance :SZ Tryz.prog 47 6:=⟨Q3⟩
instance :SZ Tryz.prog 164 2:=⟨D7⟩
instance :SZ Tryz.prog 190 1:=⟨Wm⟩
instance :SZ Tryz.prog 198 7:=⟨Kv⟩
def SG(j:Nat)(q:St→Prop)(h0:Hp)(n0:Nat)(X:List Nat)(K:List (Nat×AV))(M:List (Nat×Nat×List AV))(F:Tr AV→St→Prop):Prop:= ∀T st,Jf K T→q st→Mem h0 n0 X st M→F T st
def To(g g':Prop):Prop:=g'→g
section
variable {j:Nat} {q:St→Prop} {P:Program} {G:Env} {N:Nat} {h0:Hp} {n0:Nat} {X:List Nat} {K:List (Nat×AV)} {M:List (Nat×Nat×List AV)} {g':Prop} {ops rest:List Oper} {R:Tr AV→St→Prop} {Q:Ex→Tr AV→St→Prop} {d:Nat} {ty:TypeId} {pos:String} {af:Array Edge}
theorem R4{k:Tr AV→St→Prop}(h:To (SG j q h0 n0 X K M k) g'):To (SG j q h0 n0 X K M (Lc k Q .nor)) g':=h
theorem qR{id:Nat}(h:To (SG j q h0 n0 X K M (Q .nor)) g'):To (SG j q h0 n0 X K M (Cq id Q .nor)) g':=h
theorem qD{a b:Code}(h:To (SG j q h0 n0 X K M (W P G N a (Lc (W P G N b Q) Q))) g'):To (SG j q h0 n0 X K M (W P G N (.seq a b) Q)) g':=fun h' T st hK hq hM=>Qo (h h' T st hK hq hM)
theorem CK{id:Nat}{c:Code}(h:To (SG j q h0 n0 X K M (W P G N c (Cq id Q))) g'):To (SG j q h0 n0 X K M (W P G N (.block id c) Q)) g':=fun h' T st hK hq hM=>Yh (h h' T st hK hq hM)
theorem R5(h:To (SG j q h0 n0 X K M (Q .nor)) g'):To (SG j q h0 n0 X K M (W P G N .skip Q)) g':=fun h' T st hK hq hM=>QU (h h' T st hK hq hM)
theorem CJ{l:Nat}(h:To (SG j q h0 n0 X K M (Q .nor)) g'):To (SG j q h0 n0 X K M (W P G N (.label l) Q)) g':=fun h' T st hK hq hM=>Mk (h h' T st hK hq hM)
theorem OC{id:Nat}{l:List Oper}(h:To (SG j q h0 n0 X K M (WR P G N l l (Q .nor))) g'):To (SG j q h0 n0 X K M (W P G N (.region id l.toArray false) Q)) g':=fun h' T st hK hq hM=>Qb (h h' T st hK hq hM)
theorem qF(h:To (SG j q h0 n0 X K M R) g'):To (SG j q h0 n0 X K M (WR P G N ops [] R)) g':=fun h' T st hK hq hM=>QG (h h' T st hK hq hM)
theorem Wv{op:Op}{v:AV}(hN:Nat.ble (d+1) N=true)(ho: ∀st,Mem h0 n0 X st M→Z1 P G K op st v st)(h:To (SG j q h0 n0 X ((d,v)::K) M (WR P G N ops rest R)) g'):To (SG (j+1) q h0 n0 X K M (WR P G N ops (⟨some d,op,ty,pos,af,none⟩::rest) R)) g':=
 fun h' T st hK hq hM=>o1 hK (ho st hM) hN fun T' hK'=>h h' T' st hK' hq hM
theorem Ww{jj tt:Nat}{pol:Bool}{op:Op}{v:AV}{g1:Prop}(hd:Uh ops jj=some tt)(hb:K.lookup tt=some (.bool pol))(hN:Nat.ble (d+1) N=true)(ho: ∀st,Mem h0 n0 X st M→Z1 P G K op st v st)(h:To (SG j q h0 n0 X ((d,v)::K) M (WR P G N ops rest R)) g1):To (SG (j+1) q h0 n0 X K M (WR P G N ops (⟨some d,op,ty,pos,af,some (jj,pol)⟩::rest) R)) g1:=
 fun h' T st hK hq hM=>og hK hd hb (ho st hM) hN fun T' hK'=>h h' T' st hK' hq hM
theorem uY{jj tt:Nat}{b pol:Bool}{op:Op}{g1:Prop}(hh:Uh ops jj=some tt∧K.lookup tt=some (.bool b)∧(b==pol)=false∧Nat.ble (d+1) N=true)(h:To (SG j q h0 n0 X ((d,.tup [])::K) M (WR P G N ops rest R)) g1):To (SG (j+1) q h0 n0 X K M (WR P G N ops (⟨some d,op,ty,pos,af,some (jj,pol)⟩::rest) R)) g1:=
 fun h' T st hK hq hM=>gn hK hh.1 hh.2.1 hh.2.2.1 hh.2.2.2 fun T' hK'=>h h' T' st hK' hq hM
theorem qL{jj tt:Nat}{pol:Bool}{op:Op}{g1:Prop}(hh:Uh ops jj=some tt∧K.lookup tt=some (.tup [])∧Nat.ble (d+1) N=true)(h:To (SG j q h0 n0 X ((d,.tup [])::K) M (WR P G N ops rest R)) g1):To (SG (j+1) q h0 n0 X K M (WR P G N ops (⟨some d,op,ty,pos,af,some (jj,pol)⟩::rest) R)) g1:=
 fun h' T st hK hq hM=>zE hK hh.1 hh.2.1 hh.2.2 fun T' hK'=>h h' T' st hK' hq hM
theorem R8{x:Operand}{v:AV}{g1:Prop}(hh:Jy G K x=some v∧Nat.ble (d+1) N=true)(h:To (SG j q h0 n0 X ((d,v)::K) M (WR P G N ops rest R)) g1):To (SG (j+1) q h0 n0 X K M (WR P G N ops (⟨some d,.move x,ty,pos,af,none⟩::rest) R)) g1:=Wv hh.2 (fun st hM=>Qc hh.1) h
theorem SY{jj tt:Nat}{pol:Bool}{x:Operand}{v:AV}{g1:Prop}(hh:Jy G K x=some v∧Uh ops jj=some tt∧K.lookup tt=some (.bool pol)∧Nat.ble (d+1) N=true)(h:To (SG j q h0 n0 X ((d,v)::K) M (WR P G N ops rest R)) g1):To (SG (j+1) q h0 n0 X K M (WR P G N ops (⟨some d,.move x,ty,pos,af,some (jj,pol)⟩::rest) R)) g1:=Ww hh.2.1 hh.2.2.1 hh.2.2.2 (fun st hM=>Qc hh.1) h
theorem OD{x:Operand}{v:AV}{g1:Prop}(hh:Jy G K x=some v∧Nat.ble (d+1) N=true)(h:To (SG j q h0 n0 X ((d,v)::K) M (WR P G N ops rest R)) g1):To (SG (j+1) q h0 n0 X K M (WR P G N ops (⟨some d,.assign x,ty,pos,af,none⟩::rest) R)) g1:=Wv hh.2 (fun st hM=>Qq hh.1) h
theorem Gw{jj tt:Nat}{pol:Bool}{x:Operand}{v:AV}{g1:Prop}(hh:Jy G K x=some v∧Uh ops jj=some tt∧K.lookup tt=some (.bool pol)∧Nat.ble (d+1) N=true)(h:To (SG j q h0 n0 X ((d,v)::K) M (WR P G N ops rest R)) g1):To (SG (j+1) q h0 n0 X K M (WR P G N ops (⟨some d,.assign x,ty,pos,af,some (jj,pol)⟩::rest) R)) g1:=Ww hh.2.1 hh.2.2.1 hh.2.2.2 (fun st hM=>Qq hh.1) h
theorem qN{t:TypeId}{x:Operand}{f c m off o:Nat} [ho:FO P t f o]{g1:Prop}(hh:Jy G K x=some (.ptr c m off)∧Nat.ble (d+1) N=true)(h:To (SG j q h0 n0 X ((d,.ptr c m (off+o))::K) M (WR P G N ops rest R)) g1):To (SG (j+1) q h0 n0 X K M (WR P G N ops (⟨some d,.fieldAddr t x f,ty,pos,af,none⟩::rest) R)) g1:=Wv hh.2 (fun st hM=>QZ ho.h hh.1) h
theorem ji{jj tt:Nat}{pol:Bool}{t:TypeId}{x:Operand}{f c m off o:Nat} [ho:FO P t f o]{g1:Prop}(hh:Jy G K x=some (.ptr c m off)∧Uh ops jj=some tt∧K.lookup tt=some (.bool pol)∧Nat.ble (d+1) N=true)(h:To (SG j q h0 n0 X ((d,.ptr c m (off+o))::K) M (WR P G N ops rest R)) g1):To (SG (j+1) q h0 n0 X K M (WR P G N ops (⟨some d,.fieldAddr t x f,ty,pos,af,some (jj,pol)⟩::rest) R)) g1:=Ww hh.2.1 hh.2.2.1 hh.2.2.2 (fun st hM=>QZ ho.h hh.1) h
theorem R7{x:Operand}{c m off:Nat}{g1:Prop}(hh:Jy G K x=some (.ptr c m off)∧Nat.ble (d+1) N=true)(h:To (SG j q h0 n0 X ((d,.ptr c m off)::K) M (WR P G N ops rest R)) g1):To (SG (j+1) q h0 n0 X K M (WR P G N ops (⟨some d,.nilCheck x,ty,pos,af,none⟩::rest) R)) g1:=Wv hh.2 (fun st hM=>WC hh.1 rfl) h
theorem SX{jj tt:Nat}{pol:Bool}{x:Operand}{c m off:Nat}{g1:Prop}(hh:Jy G K x=some (.ptr c m off)∧Uh ops jj=some tt∧K.lookup tt=some (.bool pol)∧Nat.ble (d+1) N=true)(h:To (SG j q h0 n0 X ((d,.ptr c m off)::K) M (WR P G N ops rest R)) g1):To (SG (j+1) q h0 n0 X K M (WR P G N ops (⟨some d,.nilCheck x,ty,pos,af,some (jj,pol)⟩::rest) R)) g1:=Ww hh.2.1 hh.2.2.1 hh.2.2.2 (fun st hM=>WC hh.1 rfl) h
theorem qI{t yt:TypeId}{x y:Operand}{k:IntKind}{a b:Int}{g1:Prop}(hh:Jy G K x=some (.int k a)∧Jy G K y=some (.int k b)∧Nat.ble (d+1) N=true)(h:To (SG j q h0 n0 X ((d,.bool (decide (a<b)))::K) M (WR P G N ops rest R)) g1):To (SG (j+1) q h0 n0 X K M (WR P G N ops (⟨some d,.binOp .lss t x y yt,ty,pos,af,none⟩::rest) R)) g1:=Wv hh.2.2 (fun st hM=>NA hh.1 hh.2.1) h
theorem je{jj tt:Nat}{pol:Bool}{t yt:TypeId}{x y:Operand}{k:IntKind}{a b:Int}{g1:Prop}(hh:Jy G K x=some (.int k a)∧Jy G K y=some (.int k b)∧Uh ops jj=some tt∧K.lookup tt=some (.bool pol)∧Nat.ble (d+1) N=true)(h:To (SG j q h0 n0 X ((d,.bool (decide (a<b)))::K) M (WR P G N ops rest R)) g1):To (SG (j+1) q h0 n0 X K M (WR P G N ops (⟨some d,.binOp .lss t x y yt,ty,pos,af,some (jj,pol)⟩::rest) R)) g1:=Ww hh.2.2.1 hh.2.2.2.1 hh.2.2.2.2 (fun st hM=>NA hh.1 hh.2.1) h
theorem qK{t yt:TypeId}{x y:Operand}{k:IntKind}{a b:Int}{g1:Prop}(hh:Jy G K x=some (.int k a)∧Jy G K y=some (.int k b)∧Nat.ble (d+1) N=true)(h:To (SG j q h0 n0 X ((d,.bool (decide (b<a)))::K) M (WR P G N ops rest R)) g1):To (SG (j+1) q h0 n0 X K M (WR P G N ops (⟨some d,.binOp .gtr t x y yt,ty,pos,af,none⟩::rest) R)) g1:=Wv hh.2.2 (fun st hM=>BG hh.1 hh.2.1) h
theorem jg{jj tt:Nat}{pol:Bool}{t yt:TypeId}{x y:Operand}{k:IntKind}{a b:Int}{g1:Prop}(hh:Jy G K x=some (.int k a)∧Jy G K y=some (.int k b)∧Uh ops jj=some tt∧K.lookup tt=some (.bool pol)∧Nat.ble (d+1) N=true)(h:To (SG j q h0 n0 X ((d,.bool (decide (b<a)))::K) M (WR P G N ops rest R)) g1):To (SG (j+1) q h0 n0 X K M (WR P G N ops (⟨some d,.binOp .gtr t x y yt,ty,pos,af,some (jj,pol)⟩::rest) R)) g1:=Ww hh.2.2.1 hh.2.2.2.1 hh.2.2.2.2 (fun st hM=>BG hh.1 hh.2.1) h
theorem qJ{t yt:TypeId}{x y:Operand}{k:IntKind}{a b:Int}{g1:Prop}(hh:Jy G K x=some (.int k a)∧Jy G K y=some (.int k b)∧Nat.ble (d+1) N=true)(h:To (SG j q h0 n0 X ((d,.bool (decide (a≤b)))::K) M (WR P G N ops rest R)) g1):To (SG (j+1) q h0 n0 X K M (WR P G N ops (⟨some d,.binOp .leq t x y yt,ty,pos,af,none⟩::rest) R)) g1:=Wv hh.2.2 (fun st hM=>BF hh.1 hh.2.1) h
theorem jf{jj tt:Nat}{pol:Bool}{t yt:TypeId}{x y:Operand}{k:IntKind}{a b:Int}{g1:Prop}(hh:Jy G K x=some (.int k a)∧Jy G K y=some (.int k b)∧Uh ops jj=some tt∧K.lookup tt=some (.bool pol)∧Nat.ble (d+1) N=true)(h:To (SG j q h0 n0 X ((d,.bool (decide (a≤b)))::K) M (WR P G N ops rest R)) g1):To (SG (j+1) q h0 n0 X K M (WR P G N ops (⟨some d,.binOp .leq t x y yt,ty,pos,af,some (jj,pol)⟩::rest) R)) g1:=Ww hh.2.2.1 hh.2.2.2.1 hh.2.2.2.2 (fun st hM=>BF hh.1 hh.2.1) h
theorem qM{t yt:TypeId}{x y:Operand}{k:IntKind}{a b:Int}{g1:Prop}(hh:Jy G K x=some (.int k a)∧Jy G K y=some (.int k b)∧Nat.ble (d+1) N=true)(h:To (SG j q h0 n0 X ((d,.bool (decide (b≤a)))::K) M (WR P G N ops rest R)) g1):To (SG (j+1) q h0 n0 X K M (WR P G N ops (⟨some d,.binOp .geq t x y yt,ty,pos,af,none⟩::rest) R)) g1:=Wv hh.2.2 (fun st hM=>BH hh.1 hh.2.1) h
theorem jh{jj tt:Nat}{pol:Bool}{t yt:TypeId}{x y:Operand}{k:IntKind}{a b:Int}{g1:Prop}(hh:Jy G K x=some (.int k a)∧Jy G K y=some (.int k b)∧Uh ops jj=some tt∧K.lookup tt=some (.bool pol)∧Nat.ble (d+1) N=true)(h:To (SG j q h0 n0 X ((d,.bool (decide (b≤a)))::K) M (WR P G N ops rest R)) g1):To (SG (j+1) q h0 n0 X K M (WR P G N ops (⟨some d,.binOp .geq t x y yt,ty,pos,af,some (jj,pol)⟩::rest) R)) g1:=Ww hh.2.2.1 hh.2.2.2.1 hh.2.2.2.2 (fun st hM=>BH hh.1 hh.2.1) h
theorem qQ{t yt:TypeId}{x y:Operand}{k:IntKind}{a b:Int}{g1:Prop}(hh:Jy G K x=some (.int k a)∧Jy G K y=some (.int k b)∧Nat.ble (d+1) N=true)(h:To (SG j q h0 n0 X ((d,.bool (decide (a=b)))::K) M (WR P G N ops rest R)) g1):To (SG (j+1) q h0 n0 X K M (WR P G N ops (⟨some d,.binOp .eql t x y yt,ty,pos,af,none⟩::rest) R)) g1:=Wv hh.2.2 (fun st hM=>Se hh.1 hh.2.1) h
theorem jm{jj tt:Nat}{pol:Bool}{t yt:TypeId}{x y:Operand}{k:IntKind}{a b:Int}{g1:Prop}(hh:Jy G K x=some (.int k a)∧Jy G K y=some (.int k b)∧Uh ops jj=some tt∧K.lookup tt=some (.bool pol)∧Nat.ble (d+1) N=true)(h:To (SG j q h0 n0 X ((d,.bool (decide (a=b)))::K) M (WR P G N ops rest R)) g1):To (SG (j+1) q h0 n0 X K M (WR P G N ops (⟨some d,.binOp .eql t x y yt,ty,pos,af,some (jj,pol)⟩::rest) R)) g1:=Ww hh.2.2.1 hh.2.2.2.1 hh.2.2.2.2 (fun st hM=>Se hh.1 hh.2.1) h
theorem qH{t yt:TypeId}{x y:Operand}{k:IntKind}{a b:Int}{g1:Prop}(hh:Jy G K x=some (.int k a)∧Jy G K y=some (.int k b)∧Nat.ble (d+1) N=true)(h:To (SG j q h0 n0 X ((d,.bool (!decide (a=b)))::K) M (WR P G N ops rest R)) g1):To (SG (j+1) q h0 n0 X K M (WR P G N ops (⟨some d,.binOp .neq t x y yt,ty,pos,af,none⟩::rest) R)) g1:=Wv hh.2.2 (fun st hM=>Sc hh.1 hh.2.1) h
theorem jd{jj tt:Nat}{pol:Bool}{t yt:TypeId}{x y:Operand}{k:IntKind}{a b:Int}{g1:Prop}(hh:Jy G K x=some (.int k a)∧Jy G K y=some (.int k b)∧Uh ops jj=some tt∧K.lookup tt=some (.bool pol)∧Nat.ble (d+1) N=true)(h:To (SG j q h0 n0 X ((d,.bool (!decide (a=b)))::K) M (WR P G N ops rest R)) g1):To (SG (j+1) q h0 n0 X K M (WR P G N ops (⟨some d,.binOp .neq t x y yt,ty,pos,af,some (jj,pol)⟩::rest) R)) g1:=Ww hh.2.2.1 hh.2.2.2.1 hh.2.2.2.2 (fun st hM=>Sc hh.1 hh.2.1) h
theorem qP{t yt:TypeId}{x y:Operand}{a b:List Nat}{g1:Prop}(hh:Jy G K x=some (.str a)∧Jy G K y=some (.str b)∧Nat.ble (d+1) N=true)(h:To (SG j q h0 n0 X ((d,.bool (decide (a=b)))::K) M (WR P G N ops rest R)) g1):To (SG (j+1) q h0 n0 X K M (WR P G N ops (⟨some d,.binOp .eql t x y yt,ty,pos,af,none⟩::rest) R)) g1:=Wv hh.2.2 (fun st hM=>Q8 hh.1 hh.2.1) h
theorem jl{jj tt:Nat}{pol:Bool}{t yt:TypeId}{x y:Operand}{a b:List Nat}{g1:Prop}(hh:Jy G K x=some (.str a)∧Jy G K y=some (.str b)∧Uh ops jj=some tt∧K.lookup tt=some (.bool pol)∧Nat.ble (d+1) N=true)(h:To (SG j q h0 n0 X ((d,.bool (decide (a=b)))::K) M (WR P G N ops rest R)) g1):To (SG (j+1) q h0 n0 X K M (WR P G N ops (⟨some d,.binOp .eql t x y yt,ty,pos,af,some (jj,pol)⟩::rest) R)) g1:=Ww hh.2.2.1 hh.2.2.2.1 hh.2.2.2.2 (fun st hM=>Q8 hh.1 hh.2.1) h
theorem qG{t yt:TypeId}{x y:Operand}{a b:List Nat}{g1:Prop}(hh:Jy G K x=some (.str a)∧Jy G K y=some (.str b)∧Nat.ble (d+1) N=true)(h:To (SG j q h0 n0 X ((d,.bool (!decide (a=b)))::K) M (WR P G N ops rest R)) g1):To (SG (j+1) q h0 n0 X K M (WR P G N ops (⟨some d,.binOp .neq t x y yt,ty,pos,af,none⟩::rest) R)) g1:=Wv hh.2.2 (fun st hM=>N9 hh.1 hh.2.1) h
theorem jb{jj tt:Nat}{pol:Bool}{t yt:TypeId}{x y:Operand}{a b:List Nat}{g1:Prop}(hh:Jy G K x=some (.str a)∧Jy G K y=some (.str b)∧Uh ops jj=some tt∧K.lookup tt=some (.bool pol)∧Nat.ble (d+1) N=true)(h:To (SG j q h0 n0 X ((d,.bool (!decide (a=b)))::K) M (WR P G N ops rest R)) g1):To (SG (j+1) q h0 n0 X K M (WR P G N ops (⟨some d,.binOp .neq t x y yt,ty,pos,af,some (jj,pol)⟩::rest) R)) g1:=Ww hh.2.2.1 hh.2.2.2.1 hh.2.2.2.2 (fun st hM=>N9 hh.1 hh.2.1) h
theorem qE{t:TypeId}{x:Operand}{b:Bool}{g1:Prop}(hh:Jy G K x=some (.bool b)∧Nat.ble (d+1) N=true)(h:To (SG j q h0 n0 X ((d,.bool (!b))::K) M (WR P G N ops rest R)) g1):To (SG (j+1) q h0 n0 X K M (WR P G N ops (⟨some d,.unOp .not t x,ty,pos,af,none⟩::rest) R)) g1:=Wv hh.2 (fun st hM=>N8 hh.1) h
theorem ja{jj tt:Nat}{pol:Bool}{t:TypeId}{x:Operand}{b:Bool}{g1:Prop}(hh:Jy G K x=some (.bool b)∧Uh ops jj=some tt∧K.lookup tt=some (.bool pol)∧Nat.ble (d+1) N=true)(h:To (SG j q h0 n0 X ((d,.bool (!b))::K) M (WR P G N ops rest R)) g1):To (SG (j+1) q h0 n0 X K M (WR P G N ops (⟨some d,.unOp .not t x,ty,pos,af,some (jj,pol)⟩::rest) R)) g1:=Ww hh.2.1 hh.2.2.1 hh.2.2.2 (fun st hM=>N8 hh.1) h
theorem R6{x a b:Operand}{t:Bool}{u v:AV}{g1:Prop}(hh:Jy G K x=some (.bool t)∧Jy G K a=some u∧Jy G K b=some v∧Nat.ble (d+1) N=true)(h:To (SG j q h0 n0 X ((d,Qi t u v)::K) M (WR P G N ops rest R)) g1):To (SG (j+1) q h0 n0 X K M (WR P G N ops (⟨some d,.pick x a b,ty,pos,af,none⟩::rest) R)) g1:=Wv hh.2.2.2 (fun st hM=>VT hh.1 hh.2.1 hh.2.2.1) h
theorem SW{jj tt:Nat}{pol:Bool}{x a b:Operand}{t:Bool}{u v:AV}{g1:Prop}(hh:Jy G K x=some (.bool t)∧Jy G K a=some u∧Jy G K b=some v∧Uh ops jj=some tt∧K.lookup tt=some (.bool pol)∧Nat.ble (d+1) N=true)(h:To (SG j q h0 n0 X ((d,Qi t u v)::K) M (WR P G N ops rest R)) g1):To (SG (j+1) q h0 n0 X K M (WR P G N ops (⟨some d,.pick x a b,ty,pos,af,some (jj,pol)⟩::rest) R)) g1:=Ww hh.2.2.2.1 hh.2.2.2.2.1 hh.2.2.2.2.2 (fun st hM=>VT hh.1 hh.2.1 hh.2.2.1) h
theorem qO{x:Operand}{i:Nat}{l:List AV}{v:AV}{g1:Prop}(hh:Jy G K x=some (.tup l)∧nth l i=some v∧Nat.ble (d+1) N=true)(h:To (SG j q h0 n0 X ((d,v)::K) M (WR P G N ops rest R)) g1):To (SG (j+1) q h0 n0 X K M (WR P G N ops (⟨some d,.extract x i,ty,pos,af,none⟩::rest) R)) g1:=Wv hh.2.2 (fun st hM=>Iy hh.1 hh.2.1) h
theorem jk{jj tt:Nat}{pol:Bool}{x:Operand}{i:Nat}{l:List AV}{v:AV}{g1:Prop}(hh:Jy G K x=some (.tup l)∧nth l i=some v∧Uh ops jj=some tt∧K.lookup tt=some (.bool pol)∧Nat.ble (d+1) N=true)(h:To (SG j q h0 n0 X ((d,v)::K) M (WR P G N ops rest R)) g1):To (SG (j+1) q h0 n0 X K M (WR P G N ops (⟨some d,.extract x i,ty,pos,af,some (jj,pol)⟩::rest) R)) g1:=Ww hh.2.2.1 hh.2.2.2.1 hh.2.2.2.2 (fun st hM=>Iy hh.1 hh.2.1) h
theorem Zn{t:TypeId}{x:Operand}{v:AV} [ht:T1 P t](k:Nat){c m off:Nat}{l:List AV}{g1:Prop}(hh:Jy G K x=some (.ptr c m off)∧M[k]? =some (c,m,l)∧nth l off=some v∧Nat.ble (d+1) N=true)(h:To (SG j q h0 n0 X ((d,v)::K) M (WR P G N ops rest R)) g1):To (SG (j+1) q h0 n0 X K M (WR P G N ops (⟨some d,.load t x,ty,pos,af,none⟩::rest) R)) g1:=Wv hh.2.2.2 (fun st hM=>Qr hh.1 (hM.load hh.2.1 (Qw ht.h hh.2.2.1))) h
theorem Zu{jj tt:Nat}{pol:Bool}{t:TypeId}{x:Operand}{v:AV} [ht:T1 P t](k:Nat){c m off:Nat}{l:List AV}{g1:Prop}(hh:Jy G K x=some (.ptr c m off)∧M[k]? =some (c,m,l)∧nth l off=some v∧Uh ops jj=some tt∧K.lookup tt=some (.bool pol)∧Nat.ble (d+1) N=true)(h:To (SG j q h0 n0 X ((d,v)::K) M (WR P G N ops rest R)) g1):To (SG (j+1) q h0 n0 X K M (WR P G N ops (⟨some d,.load t x,ty,pos,af,some (jj,pol)⟩::rest) R)) g1:=Ww hh.2.2.2.1 hh.2.2.2.2.1 hh.2.2.2.2.2 (fun st hM=>Qr hh.1 (hM.load hh.2.1 (Qw ht.h hh.2.2.1))) h
theorem Yi{t:TypeId}{x:Operand}{n:Nat}{r:List AV} [ht:TA P t n](k:Nat){c m off:Nat}{l:List AV}{g1:Prop}(hh:Jy G K x=some (.ptr c m off)∧M[k]? =some (c,m,l)∧X6 n (XJ off l) (fun r=>some (AV.agg r))=some (.agg r)∧Nat.ble (d+1) N=true)(h:To (SG j q h0 n0 X ((d,.agg r)::K) M (WR P G N ops rest R)) g1):To (SG (j+1) q h0 n0 X K M (WR P G N ops (⟨some d,.load t x,ty,pos,af,none⟩::rest) R)) g1:=Wv hh.2.2.2 (fun st hM=>Qr hh.1 (hM.load hh.2.1 (J3 ht.h hh.2.2.1))) h
theorem Yl{jj tt:Nat}{pol:Bool}{t:TypeId}{x:Operand}{n:Nat}{r:List AV} [ht:TA P t n](k:Nat){c m off:Nat}{l:List AV}{g1:Prop}(hh:Jy G K x=some (.ptr c m off)∧M[k]? =some (c,m,l)∧X6 n (XJ off l) (fun r=>some (AV.agg r))=some (.agg r)∧Uh ops jj=some tt∧K.lookup tt=some (.bool pol)∧Nat.ble (d+1) N=true)(h:To (SG j q h0 n0 X ((d,.agg r)::K) M (WR P G N ops rest R)) g1):To (SG (j+1) q h0 n0 X K M (WR P G N ops (⟨some d,.load t x,ty,pos,af,some (jj,pol)⟩::rest) R)) g1:=Ww hh.2.2.2.1 hh.2.2.2.2.1 hh.2.2.2.2.2 (fun st hM=>Qr hh.1 (hM.load hh.2.1 (J3 ht.h hh.2.2.1))) h
theorem VM{t:TypeId}{x y:Operand}{w:AV}{n:Nat} [hz:SZ P t n](k:Nat){c m off:Nat}{l l':List AV}{g1:Prop}(hh:Jy G K x=some (.ptr c m off)∧Jy G K y=some w∧M[k]? =some (c,m,l)∧(Js w).length=n∧Vq QE (Js w)=true∧YC (Js w) off l=some l')(h:To (SG j (fun _=>True) h0 n0 X K (M.set k (c,m,l')) (WR P G N ops rest R)) g1):To (SG (j+1) (fun _=>True) h0 n0 X K M (WR P G N ops (⟨none,.store t x y,ty,pos,af,none⟩::rest) R)) g1:=
 fun h' T st hK _ hM=>QI (k:=k) hK hM hh.1 hh.2.1 hh.2.2.1 hz.h hh.2.2.2.1 hh.2.2.2.2.1 hh.2.2.2.2.2 fun st' hM'=>h h' T st' hK trivial hM'
theorem Mu{t:TypeId}{l:List AV}{g:Nat→Prop} [hz:ZE P t l](hN:Nat.ble (d+1) N=true)(h: ∀c,To (SG j (fun _=>True) h0 n0 X ((d,.ptr c 0 0)::K) ((c,0,l)::M) (WR P G N ops rest R)) (g c)):To (SG (j+1) (fun _=>True) h0 n0 X K M (WR P G N ops (⟨some d,.alloc t,ty,pos,af,none⟩::rest) R)) (∀c,g c):=
 fun h' T st hK _ hM=>UZ hK hM hz.h (Nat.le_of_ble_eq_true hN) fun c T' st' hK' hM'=>h c (h' c) T' st' hK' trivial hM'
theorem jF{g:Prop}:To g g:=id
theorem Mt{st0:St}{F:Tr AV→St→Prop}:To (SG j (fun s=>s=st0) h0 n0 X K M F) (∀T,Jf K T→F T st0):=fun h T st hK hq hM=>hq▸h T hK
theorem au(j:Nat){F:Tr AV→St→Prop}{T:Tr AV}{st:St}(hK:Jf K T)(hM:Mem h0 n0 X st M)(hn:g')(h:To (SG j (fun _=>True) h0 n0 X K M F) g':=by
 repeat' first
  |with_reducible refine' R4 ?_
  |with_reducible refine' qR ?_
  |with_reducible refine' qD ?_
  |with_reducible refine' qF ?_
  |with_reducible refine' CK ?_
  |with_reducible refine' R5 ?_
  |with_reducible refine' CJ ?_
  |with_reducible refine' OC ?_
  |((with_reducible refine' R8 ?_ ?_);any_goals exact⟨rfl,rfl⟩)
  |((with_reducible refine' SY ?_ ?_);any_goals exact⟨rfl,rfl,rfl,rfl⟩)
  |((with_reducible refine' OD ?_ ?_);any_goals exact⟨rfl,rfl⟩)
  |((with_reducible refine' Gw ?_ ?_);any_goals exact⟨rfl,rfl,rfl,rfl⟩)
  |((with_reducible refine' qN ?_ ?_);any_goals exact⟨rfl,rfl⟩)
  |((with_reducible refine' ji ?_ ?_);any_goals exact⟨rfl,rfl,rfl,rfl⟩)
  |((with_reducible refine' R7 ?_ ?_);any_goals exact⟨rfl,rfl⟩)
  |((with_reducible refine' SX ?_ ?_);any_goals exact⟨rfl,rfl,rfl,rfl⟩)
  |((with_reducible refine' qI ?_ ?_);any_goals exact⟨rfl,rfl,rfl⟩)
  |((with_reducible refine' je ?_ ?_);any_goals exact⟨rfl,rfl,rfl,rfl,rfl⟩)
  |((with_reducible refine' qK ?_ ?_);any_goals exact⟨rfl,rfl,rfl⟩)
  |((with_reducible refine' jg ?_ ?_);any_goals exact⟨rfl,rfl,rfl,rfl,rfl⟩)
  |((with_reducible refine' qJ ?_ ?_);any_goals exact⟨rfl,rfl,rfl⟩)
  |((with_reducible refine' jf ?_ ?_);any_goals exact⟨rfl,rfl,rfl,rfl,rfl⟩)
  |((with_reducible refine' qM ?_ ?_);any_goals exact⟨rfl,rfl,rfl⟩)
  |((with_reducible refine' jh ?_ ?_);any_goals exact⟨rfl,rfl,rfl,rfl,rfl⟩)
  |((with_reducible refine' qQ ?_ ?_);any_goals exact⟨rfl,rfl,rfl⟩)
  |((with_reducible refine' jm ?_ ?_);any_goals exact⟨rfl,rfl,rfl,rfl,rfl⟩)
  |((with_reducible refine' qH ?_ ?_);any_goals exact⟨rfl,rfl,rfl⟩)
  |((with_reducible refine' jd ?_ ?_);any_goals exact⟨rfl,rfl,rfl,rfl,rfl⟩)
  |((with_reducible refine' qP ?_ ?_);any_goals exact⟨rfl,rfl,rfl⟩)
  |((with_reducible refine' jl ?_ ?_);any_goals exact⟨rfl,rfl,rfl,rfl,rfl⟩)
  |((with_reducible refine' qG ?_ ?_);any_goals exact⟨rfl,rfl,rfl⟩)
  |((with_reducible refine' jb ?_ ?_);any_goals exact⟨rfl,rfl,rfl,rfl,rfl⟩)
  |((with_reducible refine' qE ?_ ?_);any_goals exact⟨rfl,rfl⟩)
  |((with_reducible refine' ja ?_ ?_);any_goals exact⟨rfl,rfl,rfl,rfl⟩)
  |((with_reducible refine' R6 ?_ ?_);any_goals exact⟨rfl,rfl,rfl,rfl⟩)
  |((with_reducible refine' SW ?_ ?_);any_goals exact⟨rfl,rfl,rfl,rfl,rfl,rfl⟩)
  |((with_reducible refine' qO ?_ ?_);any_goals exact⟨rfl,rfl,rfl⟩)
  |((with_reducible refine' jk ?_ ?_);any_goals exact⟨rfl,rfl,rfl,rfl,rfl⟩)
  |((with_reducible refine' Zn 0 ?_ ?_);any_goals exact⟨rfl,rfl,rfl,rfl⟩)
  |((with_reducible refine' Zn 1 ?_ ?_);any_goals exact⟨rfl,rfl,rfl,rfl⟩)
  |((with_reducible refine' Zn 2 ?_ ?_);any_goals exact⟨rfl,rfl,rfl,rfl⟩)
  |((with_reducible refine' Zn 3 ?_ ?_);any_goals exact⟨rfl,rfl,rfl,rfl⟩)
  |((with_reducible refine' Zn 4 ?_ ?_);any_goals exact⟨rfl,rfl,rfl,rfl⟩)
  |((with_reducible refine' Zn 5 ?_ ?_);any_goals exact⟨rfl,rfl,rfl,rfl⟩)
  |((with_reducible refine' Zn 6 ?_ ?_);any_goals exact⟨rfl,rfl,rfl,rfl⟩)
  |((with_reducible refine' Zu 0 ?_ ?_);any_goals exact⟨rfl,rfl,rfl,rfl,rfl,rfl⟩)
  |((with_reducible refine' Zu 1 ?_ ?_);any_goals exact⟨rfl,rfl,rfl,rfl,rfl,rfl⟩)
  |((with_reducible refine' Zu 2 ?_ ?_);any_goals exact⟨rfl,rfl,rfl,rfl,rfl,rfl⟩)
  |((with_reducible refine' Zu 3 ?_ ?_);any_goals exact⟨rfl,rfl,rfl,rfl,rfl,rfl⟩)
  |((with_reducible refine' Zu 4 ?_ ?_);any_goals exact⟨rfl,rfl,rfl,rfl,rfl,rfl⟩)
  |((with_reducible refine' Zu 5 ?_ ?_);any_goals exact⟨rfl,rfl,rfl,rfl,rfl,rfl⟩)
  |((with_reducible refine' Zu 6 ?_ ?_);any_goals exact⟨rfl,rfl,rfl,rfl,rfl,rfl⟩)
  |((with_reducible refine' Yi 0 ?_ ?_);any_goals exact⟨rfl,rfl,rfl,rfl⟩)
  |((with_reducible refine' Yi 1 ?_ ?_);any_goals exact⟨rfl,rfl,rfl,rfl⟩)
  |((with_reducible refine' Yi 2 ?_ ?_);any_goals exact⟨rfl,rfl,rfl,rfl⟩)
  |((with_reducible refine' Yi 3 ?_ ?_);any_goals exact⟨rfl,rfl,rfl,rfl⟩)
  |((with_reducible refine' Yi 4 ?_ ?_);any_goals exact⟨rfl,rfl,rfl,rfl⟩)
  |((with_reducible refine' Yi 5 ?_ ?_);any_goals exact⟨rfl,rfl,rfl,rfl⟩)
  |((with_reducible refine' Yi 6 ?_ ?_);any_goals exact⟨rfl,rfl,rfl,rfl⟩)
  |((with_reducible refine' Yl 0 ?_ ?_);any_goals exact⟨rfl,rfl,rfl,rfl,rfl,rfl⟩)
  |((with_reducible refine' Yl 1 ?_ ?_);any_goals exact⟨rfl,rfl,rfl,rfl,rfl,rfl⟩)
  |((with_reducible refine' Yl 2 ?_ ?_);any_goals exact⟨rfl,rfl,rfl,rfl,rfl,rfl⟩)
  |((with_reducible refine' Yl 3 ?_ ?_);any_goals exact⟨rfl,rfl,rfl,rfl,rfl,rfl⟩)
  |((with_reducible refine' Yl 4 ?_ ?_);any_goals exact⟨rfl,rfl,rfl,rfl,rfl,rfl⟩)
  |((with_reducible refine' Yl 5 ?_ ?_);any_goals exact⟨rfl,rfl,rfl,rfl,rfl,rfl⟩)
  |((with_reducible refine' Yl 6 ?_ ?_);any_goals exact⟨rfl,rfl,rfl,rfl,rfl,rfl⟩)
  |((with_reducible refine' VM 0 ?_ ?_);any_goals exact⟨rfl,rfl,rfl,rfl,rfl,rfl⟩)
  |((with_reducible refine' VM 1 ?_ ?_);any_goals exact⟨rfl,rfl,rfl,rfl,rfl,rfl⟩)
  |((with_reducible refine' VM 2 ?_ ?_);any_goals exact⟨rfl,rfl,rfl,rfl,rfl,rfl⟩)
  |((with_reducible refine' VM 3 ?_ ?_);any_goals exact⟨rfl,rfl,rfl,rfl,rfl,rfl⟩)
  |((with_reducible refine' VM 4 ?_ ?_);any_goals exact⟨rfl,rfl,rfl,rfl,rfl,rfl⟩)
  |((with_reducible refine' VM 5 ?_ ?_);any_goals exact⟨rfl,rfl,rfl,rfl,rfl,rfl⟩)
  |((with_reducible refine' VM 6 ?_ ?_);any_goals exact⟨rfl,rfl,rfl,rfl,rfl,rfl⟩)
  |((with_reducible refine' uY ?_ ?_);any_goals exact⟨rfl,rfl,rfl,rfl⟩)
  |((with_reducible refine' qL ?_ ?_);any_goals exact⟨rfl,rfl,rfl⟩)
  |((with_reducible refine' Mu ?_ fun _=>?_);any_goals exact rfl)
  |with_reducible exact jF):F T st:=h hn T st hK trivial hM
theorem Qg(j:Nat){F:Tr AV→St→Prop}{T:Tr AV}{st:St}(hK:Jf K T)(hM:Mem h0 n0 X st M)(hn:g')(h:To (SG j (fun s=>s=st) h0 n0 X K M F) g':=by
 repeat' first
  |with_reducible refine' R4 ?_
  |with_reducible refine' qR ?_
  |with_reducible refine' qD ?_
  |with_reducible refine' qF ?_
  |with_reducible refine' CK ?_
  |with_reducible refine' R5 ?_
  |with_reducible refine' CJ ?_
  |with_reducible refine' OC ?_
  |((with_reducible refine' R8 ?_ ?_);any_goals exact⟨rfl,rfl⟩)
  |((with_reducible refine' SY ?_ ?_);any_goals exact⟨rfl,rfl,rfl,rfl⟩)
  |((with_reducible refine' OD ?_ ?_);any_goals exact⟨rfl,rfl⟩)
  |((with_reducible refine' Gw ?_ ?_);any_goals exact⟨rfl,rfl,rfl,rfl⟩)
  |((with_reducible refine' qN ?_ ?_);any_goals exact⟨rfl,rfl⟩)
  |((with_reducible refine' ji ?_ ?_);any_goals exact⟨rfl,rfl,rfl,rfl⟩)
  |((with_reducible refine' R7 ?_ ?_);any_goals exact⟨rfl,rfl⟩)
  |((with_reducible refine' SX ?_ ?_);any_goals exact⟨rfl,rfl,rfl,rfl⟩)
  |((with_reducible refine' qI ?_ ?_);any_goals exact⟨rfl,rfl,rfl⟩)
  |((with_reducible refine' je ?_ ?_);any_goals exact⟨rfl,rfl,rfl,rfl,rfl⟩)
  |((with_reducible refine' qK ?_ ?_);any_goals exact⟨rfl,rfl,rfl⟩)
  |((with_reducible refine' jg ?_ ?_);any_goals exact⟨rfl,rfl,rfl,rfl,rfl⟩)
  |((with_reducible refine' qJ ?_ ?_);any_goals exact⟨rfl,rfl,rfl⟩)
  |((with_reducible refine' jf ?_ ?_);any_goals exact⟨rfl,rfl,rfl,rfl,rfl⟩)
  |((with_reducible refine' qM ?_ ?_);any_goals exact⟨rfl,rfl,rfl⟩)
  |((with_reducible refine' jh ?_ ?_);any_goals exact⟨rfl,rfl,rfl,rfl,rfl⟩)
  |((with_reducible refine' qQ ?_ ?_);any_goals exact⟨rfl,rfl,rfl⟩)
  |((with_reducible refine' jm ?_ ?_);any_goals exact⟨rfl,rfl,rfl,rfl,rfl⟩)
  |((with_reducible refine' qH ?_ ?_);any_goals exact⟨rfl,rfl,rfl⟩)
  |((with_reducible refine' jd ?_ ?_);any_goals exact⟨rfl,rfl,rfl,rfl,rfl⟩)
  |((with_reducible refine' qP ?_ ?_);any_goals exact⟨rfl,rfl,rfl⟩)
  |((with_reducible refine' jl ?_ ?_);any_goals exact⟨rfl,rfl,rfl,rfl,rfl⟩)
  |((with_reducible refine' qG ?_ ?_);any_goals exact⟨rfl,rfl,rfl⟩)
  |((with_reducible refine' jb ?_ ?_);any_goals exact⟨rfl,rfl,rfl,rfl,rfl⟩)
  |((with_reducible refine' qE ?_ ?_);any_goals exact⟨rfl,rfl⟩)
  |((with_reducible refine' ja ?_ ?_);any_goals exact⟨rfl,rfl,rfl,rfl⟩)
  |((with_reducible refine' R6 ?_ ?_);any_goals exact⟨rfl,rfl,rfl,rfl⟩)
  |((with_reducible refine' SW ?_ ?_);any_goals exact⟨rfl,rfl,rfl,rfl,rfl,rfl⟩)
  |((with_reducible refine' qO ?_ ?_);any_goals exact⟨rfl,rfl,rfl⟩)
  |((with_reducible refine' jk ?_ ?_);any_goals exact⟨rfl,rfl,rfl,rfl,rfl⟩)
  |((with_reducible refine' Zn 0 ?_ ?_);any_goals exact⟨rfl,rfl,rfl,rfl⟩)
  |((with_reducible refine' Zn 1 ?_ ?_);any_goals exact⟨rfl,rfl,rfl,rfl⟩)
  |((with_reducible refine' Zn 2 ?_ ?_);any_goals exact⟨rfl,rfl,rfl,rfl⟩)
  |((with_reducible refine' Zn 3 ?_ ?_);any_goals exact⟨rfl,rfl,rfl,rfl⟩)
  |((with_reducible refine' Zn 4 ?_ ?_);any_goals exact⟨rfl,rfl,rfl,rfl⟩)
  |((with_reducible refine' Zn 5 ?_ ?_);any_goals exact⟨rfl,rfl,rfl,rfl⟩)
  |((with_reducible refine' Zn 6 ?_ ?_);any_goals exact⟨rfl,rfl,rfl,rfl⟩)
  |((with_reducible refine' Zu 0 ?_ ?_);any_goals exact⟨rfl,rfl,rfl,rfl,rfl,rfl⟩)
  |((with_reducible refine' Zu 1 ?_ ?_);any_goals exact⟨rfl,rfl,rfl,rfl,rfl,rfl⟩)
  |((with_reducible refine' Zu 2 ?_ ?_);any_goals exact⟨rfl,rfl,rfl,rfl,rfl,rfl⟩)
  |((with_reducible refine' Zu 3 ?_ ?_);any_goals exact⟨rfl,rfl,rfl,rfl,rfl,rfl⟩)
  |((with_reducible refine' Zu 4 ?_ ?_);any_goals exact⟨rfl,rfl,rfl,rfl,rfl,rfl⟩)
  |((with_reducible refine' Zu 5 ?_ ?_);any_goals exact⟨rfl,rfl,rfl,rfl,rfl,rfl⟩)
  |((with_reducible refine' Zu 6 ?_ ?_);any_goals exact⟨rfl,rfl,rfl,rfl,rfl,rfl⟩)
  |((with_reducible refine' Yi 0 ?_ ?_);any_goals exact⟨rfl,rfl,rfl,rfl⟩)
  |((with_reducible refine' Yi 1 ?_ ?_);any_goals exact⟨rfl,rfl,rfl,rfl⟩)
  |((with_reducible refine' Yi 2 ?_ ?_);any_goals exact⟨rfl,rfl,rfl,rfl⟩)
  |((with_reducible refine' Yi 3 ?_ ?_);any_goals exact⟨rfl,rfl,rfl,rfl⟩)
  |((with_reducible refine' Yi 4 ?_ ?_);any_goals exact⟨rfl,rfl,rfl,rfl⟩)
  |((with_reducible refine' Yi 5 ?_ ?_);any_goals exact⟨rfl,rfl,rfl,rfl⟩)
  |((with_reducible refine' Yi 6 ?_ ?_);any_goals exact⟨rfl,rfl,rfl,rfl⟩)
  |((with_reducible refine' Yl 0 ?_ ?_);any_goals exact⟨rfl,rfl,rfl,rfl,rfl,rfl⟩)
  |((with_reducible refine' Yl 1 ?_ ?_);any_goals exact⟨rfl,rfl,rfl,rfl,rfl,rfl⟩)
  |((with_reducible refine' Yl 2 ?_ ?_);any_goals exact⟨rfl,rfl,rfl,rfl,rfl,rfl⟩)
  |((with_reducible refine' Yl 3 ?_ ?_);any_goals exact⟨rfl,rfl,rfl,rfl,rfl,rfl⟩)
  |((with_reducible refine' Yl 4 ?_ ?_);any_goals exact⟨rfl,rfl,rfl,rfl,rfl,rfl⟩)
  |((with_reducible refine' Yl 5 ?_ ?_);any_goals exact⟨rfl,rfl,rfl,rfl,rfl,rfl⟩)
  |((with_reducible refine' Yl 6 ?_ ?_);any_goals exact⟨rfl,rfl,rfl,rfl,rfl,rfl⟩)
  |((with_reducible refine' uY ?_ ?_);any_goals exact⟨rfl,rfl,rfl,rfl⟩)
  |((with_reducible refine' qL ?_ ?_);any_goals exact⟨rfl,rfl,rfl⟩)
  |with_reducible exact Mt):F T st:=h hn T st hK rfl hM
end
section
variable {P:Program} {G:Env} {N:Nat} {h0:Hp} {n0:Nat} {X:List Nat} {K:List (Nat×AV)} {M:List (Nat×Nat×List AV)} {ops rest:List Oper} {R:Tr AV→St→Prop} {Q:Ex→Tr AV→St→Prop} {d:Nat} {ty:TypeId} {pos:String} {af:Array Edge} {T:Tr AV} {st:St}
theorem YI{g:Operand}{a b:Code}{p:Prop} [Decidable p](hK:Jf K T)(hg:Jy G K g=some (.bool (decide p)))(ha:p→W P G N a Q T st)(hb: ¬p→W P G N b Q T st):W P G N (.cond g a b) Q T st:=Qs (hK.QB hg) (fun h=>ha (of_decide_eq_true h)) fun h=>hb (of_decide_eq_false h)
theorem Rn{g:Operand}{a b:Code}{p:Prop} [Decidable p](hK:Jf K T)(hg:Jy G K g=some (.bool (!decide p)))(ha: ¬p→W P G N a Q T st)(hb:p→W P G N b Q T st):W P G N (.cond g a b) Q T st:=Qs (hK.QB hg) (fun h=>ha (by simpa using h)) fun h=>hb (by simpa using h)
theorem oQ{f:FuncId}{args:Array Operand}{tys:Array TypeId}{l:List AV}{u:AV}(hK:Jf K T)(hM:Mem h0 n0 X st M)(h: ∃v st',Ev P G f l st v st'∧v=u∧Qt st st')(ha:Ug (Jy G K) args.toList=some l)(hN:Nat.ble (d+1) N=true)(hn: ∀T' st',Jf ((d,u)::K) T'→Mem h0 n0 X st' M→WR P G N ops rest R T' st'):
  WR P G N ops (⟨some d,.call {callee:=.value (.func f),args:=args,argTypes:=tys},ty,pos,af,none⟩::rest) R T st:=by
 obtain⟨v,st',ev,rfl,q⟩:=h;exact o1 hK (Ql ha ev) hN fun T' hK'=>hn T' st' hK' (hM.quiet q)
theorem oR{f:FuncId}{args:Array Operand}{tys:Array TypeId}{l:List AV}{u:AV}(k:Nat){c m m':Nat}{r r':List AV}(hK:Jf K T)(hM:Mem h0 n0 X st M)(h: ∃v st',Ev P G f l st v st'∧v=u∧Rm [c] st st'∧UI st'.h.get c m' r')(hk:M[k]? =some (c,m,r))(ha:Ug (Jy G K) args.toList=some l)(hN:Nat.ble (d+1) N=true)(hn: ∀T' st',Jf ((d,u)::K) T'→Mem h0 n0 X st' (M.set k (c,m',r'))→WR P G N ops rest R T' st'):
  WR P G N ops (⟨some d,.call {callee:=.value (.func f),args:=args,argTypes:=tys},ty,pos,af,none⟩::rest) R T st:=by
 obtain⟨v,st',ev,rfl,q,w⟩:=h;exact o1 hK (Ql ha ev) hN fun T' hK'=>hn T' st' hK' (hM.Ds hk q w)
theorem Q6{f:FuncId}{fn:Func}{c:Code}{N:Nat}{rs:List ResultVar}{args:List AV}{Q:AV→St→Prop}(hs:G.s f=none)(hf:P.funcs[f]? =some fn)(hb:fn.body=some c)(hN:fn.ntmps=N)(hr:fn.results.toList=rs)
 (h: ∀T,(∀t,UH T t=(args[t]?).getD (.tup []))→W P G N c (fun x T st=>(x=.nor∨x=.ret)∧ ∃v,Jp P rs T st=some v∧Q v st) T st) (hname:(fn.name== "runtime.NumGoroutine")=false:=by decide) (hl:args.length≤N:=by simp): ∃v st',Ev P G f args st v st'∧Q v st':=yl hs hf hb hN hr hname hl h
theorem J4{t:Nat}{v:AV}(hK:Jf K T)(h:K.lookup t=some v):Jp P [.tmp t] T st=some v:=Eh (Q5 hK h)
theorem VJ{t s:Nat}{u v:AV}(hK:Jf K T)(h:K.lookup t=some u)(h':K.lookup s=some v):Jp P [.tmp t,.tmp s] T st=some (.tup [u,v]):=XU (Q5 hK h) (Q5 hK h')
theorem Wr{a n:Nat}{t:TypeId}{l r:List AV} [ht:TA P t n](k:Nat){c m off:Nat}(hK:Jf K T)(hM:Mem h0 n0 X st M)(h:K.lookup a=some (.ptr c m off))(hk:M[k]? =some (c,m,l))(hl:X6 n (XJ off l) (fun r=>some (AV.agg r))=some (.agg r)):Jp P [.cell a t] T st=some (.agg r):=Eh (YK hK h (hM.load hk (J3 ht.h hl)))
end
end Go.Proofs.YtadjjadimlkkgaaGreatDoor
