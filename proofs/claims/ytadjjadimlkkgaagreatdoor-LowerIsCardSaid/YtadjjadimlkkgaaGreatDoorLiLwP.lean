/-
  Lowering, plainly.
-/
import Derived.Test.YtadjjadimlkkgaaGreatDoorLiCr
namespace Go.Proofs.YtadjjadimlkkgaaGreatDoor
open Go Go.RowKit
set_option linter.unusedVariables false
set_option linter.unusedSectionVars false

structure LS where
 ns:List (List Nat)
 lg:Bool
structure Nx where
 v:Int
 o:List Nat
 a:Int
 b:Int
 c:Int
 n:Int
def Nx.cells(x:Nx):List AV:=[.int .i64 x.v,.str x.o,.int .i64 x.a,.int .i64 x.b,.int .i64 x.c,.int .i64 x.n,.nils]
def Nx.d(x:Nx):Cr:=.mk x.o x.a x.b x.c x.n []
abbrev CG:Cr:=.mk [116,114,117,101] 0 0 0 0 []
abbrev Kr:Cr:=.mk [] 0 0 0 0 []
abbrev Z2(k:Cr):Cr:=.mk [110,111,116] 0 0 0 0 [k]
abbrev Ah(k j:Cr):Cr:=.mk [97,110,100] 0 0 0 0 [k,j]
abbrev EI(a b:Int):Cr:=.mk [115,117,98] a b 0 0 []
abbrev uh(v:Int)(k:Cr):Cr:=.mk [101,120] v 0 0 0 [k]
abbrev Wi(v:Int)(d f:Cr):Cr:=uh v (Ah d f)
abbrev Gn(k j:Cr):Cr:=Z2 (Ah k (Z2 j))
abbrev L8(a b:Int):Cr:=.mk [108,101,115,115] a b 0 0 []
def AA(ns:List (List Nat))(s:List Nat):Nat→Int
 |0=> -1
 |i+1=>if ns[i]? =some s then((i:Nat):Int)else AA ns s i
def I3(ns:List (List Nat))(s:List Nat):Int:=AA ns s ns.length
def Qv(S:LS)(s:List Nat):LS:=⟨S.ns++[s],S.lg||decide (6<S.ns.length+1)⟩
def QW(S:LS)(z:Int):LS:=⟨S.ns,S.lg||decide (20<z)⟩
def UR(S:LS)(n:Nat):LS:=⟨S.ns.take n,S.lg⟩
abbrev LT:=Int×LS×List Nx
def Wk(S:LS)(l:List Nx)(f:Int→Nx):LT:=(((S.ns.length:Nat):Int),Qv S [],l++[f ((S.ns.length:Nat):Int)])
def Zg:List Int→LT→LT
 |[],r=>r
 |k::l,r=>Zg l (Wk r.2.1 r.2.2 fun v=>⟨v,[117,110,105,111,110],r.1,k,v,0⟩)
def RM:List Int×LS×List Nx→LT
 |([],S,l)=>Wk S l fun v=>⟨v,[110,111,110,101],v,0,0,0⟩
 |(k::ks,S,l)=>Zg ks (k,S,l)
mutual
def Qm:Nd→LS→List Nx→LT
 |.mk o s z _ l,S,acc=>
  if o=[118,97,114]then(I3 S.ns s,S,acc)
  else if o=[110,117,109]then Wk (QW S z) acc fun v=>⟨v,o,v,0,0,z⟩
  else if o=[112,108,117,115]then Wk (QW (QH l S acc).2.1 z) (QH l S acc).2.2 fun v=>⟨v,o,(QH l S acc).1.headD 0,v,0,z⟩
  else if o=[115,101,116]then RM (QH l S acc)
  else Wk (QH l S acc).2.1 (QH l S acc).2.2 fun v=>⟨v,o,(QH l S acc).1.headD 0,(QH l S acc).1.tail.headD 0,v,0⟩
def QH:List Nd→LS→List Nx→List Int×LS×List Nx
 |[],S,acc=>([],S,acc)
 |k::l,S,acc=>((Qm k S acc).1::(QH l (Qm k S acc).2.1 (Qm k S acc).2.2).1,(QH l (Qm k S acc).2.1 (Qm k S acc).2.2).2)
end
def Zd(o:List Nat)(a b:Int):Cr:=
 if o=[101,113]then Ah (EI a b) (EI b a)else if o=[110,101]then Z2 (Ah (EI a b) (EI b a))else if o=[108,116]then L8 a b
 else if o=[108,101]then Z2 (L8 b a)else if o=[110,111,116,105,110]then Z2 (EI a b)else EI a b
def Ew(l:List Nx)(c:Cr):Cr:=l.foldr (fun y c=>Wi y.v y.d c) c
def Wo(o:List Nat)(l:List Nd)(S:LS):Cr×LS:=
 (Ew (QH l S []).2.2 (Zd o ((QH l S []).1.headD 0) ((QH l S []).1.tail.headD 0)),UR (QH l S []).2.1 S.ns.length)
def QN(s:List Nat)(z:Int)(S:LS):LS:=if z=0 then UR (Qv (Qv S s) []) (Qv S s).ns.length else Qv S s
def VR(z v w:Int):Cr:=if z=0 then uh w (Ah (.mk [110,117,109] w 0 0 0 []) (EI v w))else if z=1 then .mk [115,105,110,103] v 0 0 0 []else Kr
def X9(z v w:Int)(f:Cr):Cr:=if z=2 then uh v f else Wi v (VR z v w) f
mutual
def Qh:Nd→LS→Cr×LS
 |.mk o s z _ l,S=>
  if S.lg=true then(CG,S)
  else if o=[116,114,117,101]then(CG,S)
  else if o=[102,97,108,115,101]then(Z2 CG,S)
  else if o=[110,111,116]then(Z2 ((QQ l S).1.headD Kr),(QQ l S).2)
  else if o=[97,110,100]then(Ah ((QQ l S).1.headD Kr) ((QQ l S).1.tail.headD Kr),(QQ l S).2)
  else if o=[111,114]then(Z2 (Ah (Z2 ((QQ l S).1.headD Kr)) (Z2 ((QQ l S).1.tail.headD Kr))),(QQ l S).2)
  else if o=[105,109,112]then(Gn ((QQ l S).1.headD Kr) ((QQ l S).1.tail.headD Kr),(QQ l S).2)
  else if o=[105,102,102]then(Ah (Gn ((QQ l S).1.headD Kr) ((QQ l S).1.tail.headD Kr)) (Gn ((QQ l S).1.tail.headD Kr) ((QQ l S).1.headD Kr)),(QQ l S).2)
  else if o=[101,120]then(X9 z ((S.ns.length:Nat):Int) (((Qv S s).ns.length:Nat):Int) ((QQ l (QN s z S)).1.headD Kr),UR (QQ l (QN s z S)).2 S.ns.length)
  else if o=[97,108,108]then(Z2 (X9 z ((S.ns.length:Nat):Int) (((Qv S s).ns.length:Nat):Int) (Z2 ((QQ l (QN s z S)).1.headD Kr))),UR (QQ l (QN s z S)).2 S.ns.length)
  else if o=[105,115]then(.mk [102,108,97,103] (I3 S.ns s) 0 0 0 [],S)
  else Wo o l S
def QQ:List Nd→LS→List Cr×LS
 |[],S=>([],S)
 |k::l,S=>((Qh k S).1::(QQ l (Qh k S).2).1,(QQ l (Qh k S).2).2)
end
mutual
def Hv:Cr→Nat
 |.mk _ _ _ _ _ l=>Au l+1
def Au:List Cr→Nat
 |[]=>0
 |k::l=>Hv k+Au l
end
mutual
def JD:Nd→Bool
 |.mk o _ _ _ l=>decide (o=[99,97,108,108])||WQ l
def WQ:List Nd→Bool
 |[]=>false
 |k::l=>JD k||WQ l
end
def DP(dn:List Int)(r:List Int×LS×List Nx):List Int×LS×List Nx:=(dn++r.1,r.2)
theorem OB{l:List Nd}{i:Nat}{k:Nd}{S:LS}{acc:List Nx}(dn:List Int)(h:l[i]? =some k):DP dn (QH (l.drop i) S acc)=DP (dn++[(Qm k S acc).1]) (QH (l.drop (i+1)) (Qm k S acc).2.1 (Qm k S acc).2.2):=by
 obtain⟨h1,h2⟩:=List.getElem?_eq_some_iff.1 h;rw[List.drop_eq_getElem_cons h1,QH,h2];simp[DP]
theorem Bt{l:List Nd}{i:Nat}{S:LS}{acc:List Nx}(dn:List Int)(h:l.length≤i):DP dn (QH (l.drop i) S acc)=(dn,S,acc):=by
 rw[List.drop_eq_nil_of_le h,QH];simp[DP]
theorem Eg: ∀(l:List Nd) (S:LS) (acc:List Nx),(QH l S acc).1.length=l.length
 |[],S,acc=>by rw[QH];rfl
 |k::l,S,acc=>by rw[QH,List.length_cons,Eg l];rfl
theorem Bj{l:List Nx}{i:Nat}{y:Nx}(h:l[i]? =some y)(c:Cr):Ew (l.take (i+1)) c=Ew (l.take i) (Wi y.v y.d c):=by
 have:l.take (i+1)=l.take i++[y]:=by rw[List.take_add_one,h];rfl
 rw[this,Ew,List.foldr_append];rfl
theorem I2{ns:List (List Nat)}{s:List Nat}{i:Nat}{x:List Nat}(h:ns[i]? =some x):AA ns s (i+1)=if x=s then((i:Nat):Int)else AA ns s i:=by
 rw[AA,h]
 by_cases hx:x=s
 ·rw[if_pos (by rw[hx]),if_pos hx]
 ·rw[if_neg (fun e=>hx (Option.some.inj e)),if_neg hx]
end Go.Proofs.YtadjjadimlkkgaaGreatDoor
