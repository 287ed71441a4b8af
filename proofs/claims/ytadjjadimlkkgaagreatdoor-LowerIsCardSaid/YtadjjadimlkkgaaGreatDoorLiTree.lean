/-
  Formulas and terms in the reckoner's memory, by rows; what a formula is, what a term is, how great, how deep.
-/
import Derived.Test.YtadjjadimlkkgaaGreatDoorLiNode
import Derived.Test.YtadjjadimlkkgaaGreatDoorLiRrN
namespace Go.Proofs.YtadjjadimlkkgaaGreatDoor
open Go Go.RowKit
set_option linter.unusedVariables false
set_option maxRecDepth 100000

structure VI(h:Hp)(kids:List Nd)(kk:AV)(ls:List (List AV)):Prop where
 r:VK h [] 5 ls kk
 ln:ls.length=kids.length
 at_: ∀(i:Nat) (k:Nd),kids[i]? =some k→ ∃cs,ls[i]? =some cs∧Yq h k cs
theorem VI.len{h:Hp}{kids:List Nd}{kk:AV}{ls:List (List AV)}(H:VI h kids kk ls):Yj kk=some kids.length:=by rw[←H.ln];exact H.r.len
theorem VI.cell{h:Hp}{kids:List Nd}{kk:AV}{ls:List (List AV)}(H:VI h kids kk ls):QE kk=true:=H.r.cell
theorem VI.UK{h:Hp}{kids:List Nd}{kk:AV}{ls:List (List AV)}(H:VI h kids kk ls):(kids.length:Int)≤9223372036854775807:=by rw[←H.ln];exact H.r.UK
theorem Yq.Jl{h:Hp}{op name:List Nat}{n at_:Int}{kids:List Nd}{cs:List AV}(r:Yq h (.mk op name n at_ kids) cs):
  ∃kk ls,cs=[.str op,.str name,.int .i64 n,.int .i64 at_,kk]∧VI h kids kk ls∧Bytes op∧Bytes name:=by
 cases r with
 |leaf hs ha hb=>
  rename_i ks;refine⟨ks,[],rfl,⟨⟨hs,by simp,ZA hs,fun i cs hi=>by simp at hi,fun c m off n z e=>by subst e;cases ha⟩,rfl,fun i k hi=>by simp at hi⟩,hb⟩
 |node hr hn hl hk hb=>
  rename_i c m off cells
  have hlen:((List.range kids.length).map fun i=>(cells.drop (off+i *5)).take 5).length=kids.length:=by simp
  have hat: ∀(i:Nat) (cs:List AV),((List.range kids.length).map fun i=>(cells.drop (off+i *5)).take 5)[i]? =some cs→i<kids.length∧cs=(cells.drop (off+i *5)).take 5:=by
   intro i cs hi;rw[List.getElem?_map]at hi
   have hlt:i<kids.length:=by
    by_cases h:i<kids.length
    ·exact h
    ·rw[List.getElem?_eq_none (by simp;omega)]at hi;cases hi
   rw[List.getElem?_range hlt]at hi
   injection hi with hi
   exact⟨hlt,hi.symm⟩
  refine⟨_,(List.range kids.length).map fun i=>(cells.drop (off+i *5)).take 5,rfl,⟨⟨by rw[hlen];rfl,by rw[hlen];exact hn,rfl,fun i cs hi=>?_,fun c' m' off' n' z e=>?_⟩,hlen,fun i k hi=>?_⟩,hb⟩
  ·obtain⟨h1,rfl⟩:=hat i cs hi;refine⟨c,m,off,cells,by rw[hlen],by simp,hr,?_,rfl⟩;rw[List.length_take,List.length_drop];omega
  ·injection e with e1 e2 e3 e4 e5
   subst e1 e2 e3 e4 e5;exact⟨by simp,cells,hr,hl⟩
  ·have hlt:=(List.getElem?_eq_some_iff.1 hi).1;refine⟨_,?_,hk i k hi⟩;rw[List.getElem?_map,List.getElem?_range hlt];rfl
theorem Yq.qt{st st':St}(hf:Qx st)(q:Qt st st'){k:Nd}{cs:List AV}(r:Yq st.h.get k cs):Yq st'.h.get k cs:=r.mono (q.rows hf)
def Nd.op:Nd→List Nat
 |.mk op _ _ _ _=>op
theorem JQ{kids:List Nd}{i:Nat}{k:Nd}(h:kids[i]? =some k):k∈kids:=List.mem_of_getElem? h

mutual
def KP:Nd→Nat
 |.mk _ _ _ _ kids=>PG kids+1
def PG:List Nd→Nat
 |[]=>0
 |a::l=>max (KP a) (PG l)
end
theorem CL(k:Nd):1≤XN k:=by cases k;rw[XN];omega
theorem Dn(k:Nd):1≤KP k:=by cases k;rw[KP];omega
theorem OF{kids:List Nd}{i:Nat}{k:Nd}(h:kids[i]? =some k):As (kids.drop i)=XN k+As (kids.drop (i+1)):=by
 obtain⟨h1,h2⟩:=List.getElem?_eq_some_iff.1 h;rw[List.drop_eq_getElem_cons h1,As,h2]
theorem G6{kids:List Nd}{i:Nat}{k:Nd}(h:kids[i]? =some k):PG (kids.drop i)=max (KP k) (PG (kids.drop (i+1))):=by
 obtain⟨h1,h2⟩:=List.getElem?_eq_some_iff.1 h;rw[List.drop_eq_getElem_cons h1,PG,h2]
theorem Un{α:Type}{l:List α}{i:Nat}(h:l.length≤i):l.drop i=[]:=List.drop_eq_nil_of_le h

def Zr:List Nat:=[118,97,114]
def ZS:List Nat:=[110,117,109]
def UM:List Nat:=[112,108,117,115]
def YD:List Nat:=[115,101,116]
def Jr(op:List Nat):Bool:=decide (op=[117,110,105,111,110])||(decide (op=[105,110,116,101,114])||decide (op=[109,105,110,117,115]))
def Jh(name:List Nat)(n:Int)(kids:List Nd)(m:Int):Bool:=decide (name=[])&&(decide (n=0)&&decide (((kids.length:Nat):Int)=m))
def QJ(x:Nd):Bool:=match x with
 |.mk op name n _ kids=>
  if op=Zr then ZT name&&(decide (n=0)&&decide (((kids.length:Nat):Int)=0))
  else if op=ZS then decide (name=[])&&(decide (0≤n)&&(decide (n≤99)&&decide (((kids.length:Nat):Int)=0)))
  else if op=UM then decide (name=[])&&(decide (1≤n)&&(decide (n≤99)&&(decide (((kids.length:Nat):Int)=1)&&kids.attach.all fun k=>decide (k.1.op=Zr)&&QJ k.1)))
  else if op=YD then decide (name=[])&&(decide (n=0)&&(decide (((kids.length:Nat):Int)≤6)&&kids.attach.all fun k=>QJ k.1&&(!Jr k.1.op&& !decide (k.1.op=YD))))
  else if Jr op then Jh name n kids 2&&((kids.attach.all fun k=>QJ k.1)&&(match kids[1]? with|some k=> !Jr k.op|none=>true))
  else false
termination_by XN x
decreasing_by
 all_goals
  simp_wf
  have:=Ue k.2;rw[XN];omega
theorem Wj{α:Type}(l:List α)(p:α→Bool):(l.attach.all fun x=>p x.1)=l.all p:=by
 rw[List.all_eq,List.all_eq];simp
def UG(k:Nd):Bool:=QJ k&&(!Jr k.op&& !decide (k.op=YD))
theorem Ju(op name:List Nat)(n at_:Int)(kids:List Nd):QJ (.mk op name n at_ kids)=
  if op=Zr then ZT name&&(decide (n=0)&&decide (((kids.length:Nat):Int)=0))
  else if op=ZS then decide (name=[])&&(decide (0≤n)&&(decide (n≤99)&&decide (((kids.length:Nat):Int)=0)))
  else if op=UM then decide (name=[])&&(decide (1≤n)&&(decide (n≤99)&&(decide (((kids.length:Nat):Int)=1)&&kids.all fun k=>decide (k.op=Zr)&&QJ k)))
  else if op=YD then decide (name=[])&&(decide (n=0)&&(decide (((kids.length:Nat):Int)≤6)&&kids.all UG))
  else if Jr op then Jh name n kids 2&&((kids.all QJ)&&(match kids[1]? with|some k=> !Jr k.op|none=>true))
  else false:=by
 rw[QJ];rw[Wj kids fun k=>decide (k.op=Zr)&&QJ k,Wj kids fun k=>QJ k&&(!Jr k.op&& !decide (k.op=YD)),Wj kids QJ];rfl
def oneOf(op:List Nat)(l:List (List Nat)):Bool:=l.any fun x=>decide (op=x)
def QO(x:Nd):Bool:=match x with
 |.mk op name n _ kids=>
  if oneOf op [[116,114,117,101],[102,97,108,115,101]]then Jh name n kids 0
  else if op=[110,111,116]then Jh name n kids 1&&kids.attach.all fun k=>QO k.1
  else if oneOf op [[97,110,100],[111,114],[105,109,112],[105,102,102]]then Jh name n kids 2&&kids.attach.all fun k=>QO k.1
  else if oneOf op [[101,120],[97,108,108]]then ZT name&&(decide (0≤n)&&(decide (n<3)&&(decide (((kids.length:Nat):Int)=1)&&kids.attach.all fun k=>QO k.1)))
  else if op=[105,115]then ZT name&&(decide (n=0)&&decide (((kids.length:Nat):Int)=0))
  else if oneOf op [[101,113],[110,101],[108,116],[108,101],[105,110],[110,111,116,105,110],[115,117,98]]then Jh name n kids 2&&kids.all QJ
  else if op=[99,97,108,108]then ZT name&&(decide (n=0)&&(decide (((kids.length:Nat):Int)≤6)&&kids.all QJ))
  else false
termination_by XN x
decreasing_by
 all_goals
  simp_wf
  have:=Ue k.2;rw[XN];omega
theorem J8(op name:List Nat)(n at_:Int)(kids:List Nd):QO (.mk op name n at_ kids)=
  if oneOf op [[116,114,117,101],[102,97,108,115,101]]then Jh name n kids 0
  else if op=[110,111,116]then Jh name n kids 1&&kids.all QO
  else if oneOf op [[97,110,100],[111,114],[105,109,112],[105,102,102]]then Jh name n kids 2&&kids.all QO
  else if oneOf op [[101,120],[97,108,108]]then ZT name&&(decide (0≤n)&&(decide (n<3)&&(decide (((kids.length:Nat):Int)=1)&&kids.all QO)))
  else if op=[105,115]then ZT name&&(decide (n=0)&&decide (((kids.length:Nat):Int)=0))
  else if oneOf op [[101,113],[110,101],[108,116],[108,101],[105,110],[110,111,116,105,110],[115,117,98]]then Jh name n kids 2&&kids.all QJ
  else if op=[99,97,108,108]then ZT name&&(decide (n=0)&&(decide (((kids.length:Nat):Int)≤6)&&kids.all QJ))
  else false:=by
 rw[QO];rw[Wj kids QO]
end Go.Proofs.YtadjjadimlkkgaaGreatDoor
