/-
  Programs that a call is handed, by rows; names are of bytes.
-/
import Derived.Test.YtmgkfceomhagaaaGreatDoorPsData
namespace Go.Proofs.YtmgkfceomhagaaaGreatDoor
open Go Go.RowKit
set_option linter.unusedVariables false
set_option maxRecDepth 100000

structure zh{K:Type}(h:Hp)(z:Nat)(R:K→List AV→Prop)(l:List K)(kk:AV)(ls:List (List AV)):Prop where
 r:QQ h [] z ls kk
 ln:ls.length=l.length
 at_: ∀(i:Nat) (k:K),l[i]? =some k→ ∃cs,ls[i]? =some cs∧R k cs
section
variable {K:Type} {h h':Hp} {z:Nat} {R R':K→List AV→Prop} {l:List K} {kk:AV} {ls:List (List AV)}
end
def kK(d:Dc)(cs:List AV):Prop:=cs=[.str d.name,.int .i64 d.order,.int .i64 d.at_]∧Bytes d.name
def iP(h:Hp)(l:List Dc)(kk:AV)(ls:List (List AV)):Prop:=zh h 3 kK l kk ls
def kj(h:Hp)(p:Pd)(cs:List AV):Prop:= ∃kp lp op nm n a kk,cs=[.str p.name,kp,.str op,.str nm,.int .i64 n,.int .i64 a,kk,.int .i64 p.at_]∧iP h p.params kp lp∧VD h p.body [.str op,.str nm,.int .i64 n,.int .i64 a,kk]∧Bytes p.name
def kJ(h:Hp)(l:List Pd)(kk:AV)(ls:List (List AV)):Prop:=zh h 8 (kj h) l kk ls
def fI(h:Hp)(p:Pg)(cs:List AV):Prop:= ∃kd ld kp lp op nm n a kk,cs=[kd,kp,.str op,.str nm,.int .i64 n,.int .i64 a,kk]∧iP h p.decls kd ld∧kJ h p.preds kp lp∧VD h p.main [.str op,.str nm,.int .i64 n,.int .i64 a,kk]
end Go.Proofs.YtmgkfceomhagaaaGreatDoor
