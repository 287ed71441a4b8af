/-
  Programs that a call is handed, by rows; names are of bytes.
-/
import Derived.ChangeShapes
import Derived.ChangeOld
import Derived.Below
import Derived.Carry
import Derived.Test.YtadjjadimlkkgaaGreatDoorKtTree
namespace Go.Proofs.YtadjjadimlkkgaaGreatDoor
open Go Go.RowKit
set_option linter.unusedVariables false
set_option maxRecDepth 100000

structure Vd{K:Type}(h:Hp)(z:Nat)(R:K→List AV→Prop)(l:List K)(kk:AV)(ls:List (List AV)):Prop where
 r:J8 h [] z ls kk
 ln:ls.length=l.length
 at_: ∀(i:Nat) (k:K),l[i]? =some k→ ∃cs,ls[i]? =some cs∧R k cs
section
variable {K:Type} {h h':Hp} {z:Nat} {R R':K→List AV→Prop} {l:List K} {kk:AV} {ls:List (List AV)}
theorem Vd.len(H:Vd h z R l kk ls):V5 kk=some l.length:=by rw[←H.ln];exact H.r.len
theorem Vd.cell(H:Vd h z R l kk ls):JD kk=true:=H.r.cell
theorem Vd.Yx(H:Vd h z R l kk ls):(l.length:Int)≤9223372036854775807:=by rw[←H.ln];exact H.r.Yx
theorem J8.mono(hl:AZ h h')(r:J8 h [] z ls kk):J8 h' [] z ls kk:=
 ⟨r.len,r.Yx,r.cell,fun i cs hi=>by
  obtain⟨c,m,off,cells,h1,h2,h3,h4⟩:=r.at_ i cs hi
  exact⟨c,m,off,cells,h1,h2,hl _ _ _ h3,h4⟩,fun c m off n z' e=>by
  obtain⟨h1,cells,h2,h3⟩:=r.alive c m off n z' e
  exact⟨h1,cells,hl _ _ _ h2,h3⟩⟩
theorem Vd.mono(hl:AZ h h')(hR: ∀k cs,R k cs→R' k cs)(H:Vd h z R l kk ls):Vd h' z R' l kk ls:=
 ⟨H.r.mono hl,H.ln,fun i k hi=>by
  obtain⟨cs,h1,h2⟩:=H.at_ i k hi
  exact⟨cs,h1,hR _ _ h2⟩⟩
end
def uR(d:Dc)(cs:List AV):Prop:=cs=[.str d.name,.int .i64 d.order,.int .i64 d.at_]∧Bytes d.name
def Yo(h:Hp)(l:List Dc)(kk:AV)(ls:List (List AV)):Prop:=Vd h 3 uR l kk ls
def R9(h:Hp)(p:Pd)(cs:List AV):Prop:= ∃kp lp op nm n a kk,cs=[.str p.name,kp,.str op,.str nm,.int .i64 n,.int .i64 a,kk,.int .i64 p.at_]∧Yo h p.params kp lp∧YW h p.body [.str op,.str nm,.int .i64 n,.int .i64 a,kk]∧Bytes p.name
def EE(h:Hp)(l:List Pd)(kk:AV)(ls:List (List AV)):Prop:=Vd h 8 (R9 h) l kk ls
def qp(h:Hp)(p:Pg)(cs:List AV):Prop:= ∃kd ld kp lp op nm n a kk,cs=[kd,kp,.str op,.str nm,.int .i64 n,.int .i64 a,kk]∧Yo h p.decls kd ld∧EE h p.preds kp lp∧YW h p.main [.str op,.str nm,.int .i64 n,.int .i64 a,kk]
theorem Yo.mono{h h':Hp}(hl:AZ h h'){l:List Dc}{kk:AV}{ls:List (List AV)}(H:Yo h l kk ls):Yo h' l kk ls:=Vd.mono hl (fun _ _ h=>h) H
theorem R9.mono{h h':Hp}(hl:AZ h h'){p:Pd}{cs:List AV}(H:R9 h p cs):R9 h' p cs:=by
 obtain⟨kp,lp,op,nm,n,a,kk,e,h1,h2,h3⟩:=H;exact⟨kp,lp,op,nm,n,a,kk,e,h1.mono hl,h2.mono hl,h3⟩
theorem EE.mono{h h':Hp}(hl:AZ h h'){l:List Pd}{kk:AV}{ls:List (List AV)}(H:EE h l kk ls):EE h' l kk ls:=Vd.mono hl (fun _ _ h=>h.mono hl) H
theorem qp.mono{h h':Hp}(hl:AZ h h'){p:Pg}{cs:List AV}(H:qp h p cs):qp h' p cs:=by
 obtain⟨kd,ld,kp,lp,op,nm,n,a,kk,e,h1,h2,h3⟩:=H;exact⟨kd,ld,kp,lp,op,nm,n,a,kk,e,h1.mono hl,h2.mono hl,h3.mono hl⟩
end Go.Proofs.YtadjjadimlkkgaaGreatDoor
