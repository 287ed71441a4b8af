/-
  Programs that are parsed: their names are of bytes; they are read as programs that a call is handed.
-/
import Derived.Test.YtadjjadimlkkgaaGreatDoorKtRpE
namespace Go.Proofs.YtadjjadimlkkgaaGreatDoor
open Go Go.RowKit
set_option linter.unusedVariables false
set_option linter.unusedSectionVars false

def BV(l:List Dc):Prop:= ∀d∈l,Bytes d.name
def uL(p:Pd):Prop:=Bytes p.name∧BV p.params
def uQ(g:Pg):Prop:=BV g.decls∧ ∀p∈g.preds,uL p
theorem BV.snoc{l:List Dc}{d:Dc}(h:BV l)(hd:Bytes d.name):BV (l++[d]):=fun x hx=>by
 rcases List.mem_append.1 hx with hx|hx
 ·exact h x hx
 ·rw[List.mem_singleton.1 hx];exact hd
section
variable {L:List Tk} (hO:YH L)
include hO
theorem By(o:Int): ∀f S l,BV l→BV (Zb L o f S l).2
 |0,S,l,h=>by rw[Zb];exact h
 |f+1,S,l,h=>by
  have h2:BV (l++[⟨(Je L S).s,o,(Je L S).a⟩]):=h.snoc (Qk hO S);rw[Zb]
  split
  ·exact h
  split
  ·exact By o f _ _ h2
  ·exact h2
theorem NQ: ∀f S l,BV l→BV (Ze L f S l).2
 |0,S,l,h=>by rw[Ze];exact h
 |f+1,S,l,h=>by
  have h2:BV (l++[⟨(Je L (WO L S l.length)).s,QS L S [118,97,114],(Je L (WO L S l.length)).a⟩]):=h.snoc (Qk hO _);rw[Ze]
  split
  ·exact h
  split
  ·exact NQ f _ _ h2
  ·exact h2
theorem S7(S:PS):BV (Yh L S).2:=by
 unfold Yh
 split
 ·intro d hd;cases hd
 ·exact NQ hO _ _ _ (fun d hd=>by cases hd)
theorem jz(S:PS):uL (Jz L S).2:=⟨Qk hO _,S7 hO _⟩
theorem jR(S:PS):BV (Uh L S).2:=By hO _ _ _ _ (fun d hd=>by cases hd)
theorem Lg: ∀f S ds ps,BV ds→(∀p∈ps,uL p)→BV (Z8 L f S ds ps).2.1∧ ∀p∈(Z8 L f S ds ps).2.2,uL p
 |0,S,ds,ps,h1,h2=>by rw[Z8];exact⟨h1,h2⟩
 |f+1,S,ds,ps,h1,h2=>by
  rw[Z8]
  split
  ·exact⟨h1,h2⟩
  split
  ·refine Lg f _ _ _ h1 fun p hp=>?_;rcases List.mem_append.1 hp with hp|hp
   ·exact h2 p hp
   ·rw[List.mem_singleton.1 hp];exact jz hO S
  split
  ·refine Lg f _ _ _ (fun d hd=>?_) h2;rcases List.mem_append.1 hd with hd|hd
   ·exact h1 d hd
   ·exact jR hO S d hd
  ·exact⟨h1,h2⟩
theorem S6:uQ (Xw L).2:=Lg hO _ _ _ _ (fun d hd=>by cases hd) (fun p hp=>by cases hp)
end
theorem SF:uQ GP:=⟨(fun d hd=>by cases hd),(fun p hp=>by cases hp)⟩
theorem MB(l:List Nat):uQ (Yl l).1:=by
 unfold Yl
 split
 ·exact SF
 ·rename_i h
  split
  ·exact SF
  ·exact S6 (Df l (by omega)).1
theorem J8.yb{h:Hp}{X:List Nat}{c m z:Nat}{ls:List (List AV)}(r:X4 h c m ls.flatten)(hz: ∀cs∈ls,cs.length=z)(hX:c∉X)(hb:(ls.length:Int)≤9223372036854775807):J8 h X z ls (.sl c m 0 ls.length z):=
 ⟨rfl,hb,rfl,fun i cs hi=>⟨c,m,0,_,rfl,hX,r,hz cs (List.mem_of_getElem? hi),by rw[Nat.zero_add];exact Fm i cs hz hi⟩,fun c' m' off n z' e=>by
  injection e with e1 e2 e3 e4 e5
  subst e1 e2 e3 e4 e5
  exact⟨hX,_,r,by rw[WB hz];omega⟩⟩
theorem Acc.yj{n0 z:Nat}{A:YC}{ks:AV}{ls:List (List AV)}{R:Es}{h:Hp}(hA:Acc n0 z A ks ls)(hx: ∀x∈A,R x.1 x.2.1 x.2.2)(hR:qR R h):J8 h [] z ls ks:=by
 cases hA with
 |none=>exact .nil _ _ _
 |own hc hz hb=>exact J8.yb (hR _ _ _ (hx _ (List.mem_singleton.2 rfl))) hz (by simp) (by omega)
theorem je{n0:Nat}{A:YC}{ks:AV}{l:List Dc}{R:Es}{h:Hp}(hA:Acc n0 3 A ks (l.map Dc.cells))(hx: ∀x∈A,R x.1 x.2.1 x.2.2)(hR:qR R h)(hb:BV l):Yo h l ks (l.map Dc.cells):=
 ⟨hA.yj hx hR,List.length_map _,fun i k hk=>⟨k.cells,by rw[List.getElem?_map,hk];rfl,rfl,hb k (List.mem_of_getElem? hk)⟩⟩
theorem jh.toR{R:Es}{h:Hp}{p:Pd}{cs:List AV}(r:jh R p cs)(hR:qR R h)(hb:uL p):R9 h p cs:=by
 obtain⟨kp,o,s,z,a,kk,e,⟨A,hx,n0,hA⟩,hn⟩:=r;exact⟨kp,_,o,s,z,a,kk,e,je hA hx hR hb.2,hn.KQ hR,hb.1⟩
theorem Mm.toR{R:Es}{h:Hp}{g:Pg}{cs:List AV}(r:Mm R g cs)(hR:qR R h)(hb:uQ g):qp h g cs:=by
 obtain⟨kd,kp,o,s,z,a,kk,lsp,e,⟨A,hx,n0,hA⟩,⟨A2,hx2,n2,hA2⟩,hl,hP,hn⟩:=r;refine⟨kd,_,kp,lsp,o,s,z,a,kk,e,je hA hx hR hb.1,⟨hA2.yj hx2 hR,hl,fun i p hi=>?_⟩,hn.KQ hR⟩
 have hlt:i<lsp.length:=by rw[hl];exact(List.getElem?_eq_some_iff.1 hi).1
 exact⟨_,List.getElem?_eq_getElem hlt,(hP i p _ hi (List.getElem?_eq_getElem hlt)).toR hR (hb.2 p (List.mem_of_getElem? hi))⟩
theorem Mh(h:Hp):qR R0 h:=fun _ _ _ h=>h.elim
end Go.Proofs.YtadjjadimlkkgaaGreatDoor
