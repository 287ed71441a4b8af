/-
  Automata of few states.
-/
import Derived.Test.YthjgndgnmkiaiaaGreatDoorZpPsq
set_option maxRecDepth 1000000
set_option linter.unusedVariables false
namespace Go.Proofs.YthjgndgnmkiaiaaGreatDoor
section
open Go Go.RowKit

structure Df where
 tr:Nat
 acc:List Bool
 roots:List Nat
 nodes:List AV
def iK(n:Nat):AV:=.int .i64 (n:Int)
def lf(v:Nat):AV:=.ifc 352 (.agg [iK v])
def fk(t l h:Nat):AV:=.ifc 354 (.agg [iK t,iK l,iK h])
def xQ:List AV→Nat→List (AV×AV×Nat)
 |[],_=>[]
 |x::l,i=>(x,iK i,i)::xQ l (i+1)
def Df.lits(d:Df)(b:Nat):List LC:=[.row [.sl (b+1) 0 0 d.acc.length 1,.sl (b+2) 0 0 d.roots.length 1,.ptr (b+3) 0 0],.row (d.acc.map .bool),.row (d.roots.map iK),.row [iK d.tr,.sl (b+4) 0 0 d.nodes.length 1,.mp (b+5)],.row d.nodes,.map (xQ d.nodes 0) d.nodes.length]
def nr:AV:=.tup [.ptr 0 0 0,.int .i64 0]
def oD:LC:=.row [.int .i64 401,.bool false]
def U1(a m:Df):Na:=⟨[.ptr 0 0 0],[6],a.lits 0,none,nr,m.lits 0⟩
def WQ(a b m:Df):Na:=⟨[.ptr 0 0 0,.ptr 6 0 0,.int .i64 8,.ptr 12 0 0],[6,6,1],a.lits 0++(b.lits 6++[oD]),some 12,nr,m.lits 0⟩
def Ny(a:Df)(t:Nat)(m:Df):Na:=⟨[.ptr 0 0 0,iK t,.ptr 6 0 0],[6,1],a.lits 0++[oD],some 6,nr,m.lits 0⟩
def LK(op:List Nat)(a b n:Nat)(m:Df):Na:=⟨[.agg [.str op,iK a,iK b,.int .i64 0,.int .i64 0,.nils],iK n],[],[],none,nr,m.lits 0⟩
def DD:Df:=⟨0,[true],[0],[lf 0]⟩
def uE:Df:=⟨1,[false,true,false],[2,4,3],[lf 0,lf 1,fk 0 0 1,lf 2,fk 0 1 3]⟩
def aQ:Df:=⟨2,[false,true,false],[2,4,3],[lf 0,lf 1,fk 1 0 1,lf 2,fk 1 1 3]⟩
def Sk:Df:=⟨2,[false,false,false,true],[5,8,1,10],[lf 0,lf 2,fk 1 0 1,lf 1,fk 1 3 1,fk 0 2 4,lf 3,fk 1 3 6,fk 0 7 1,fk 1 6 1,fk 0 9 1]⟩
def ny:Df:=⟨2,[false,false,false,false,true,false],[5,10,12,9,14,11],[lf 0,lf 2,fk 1 0 1,lf 1,fk 1 3 1,fk 0 2 4,lf 4,fk 1 3 6,lf 3,fk 1 8 1,fk 0 7 9,lf 5,fk 1 1 11,fk 1 6 11,fk 0 13 12]⟩
def nw:Df:=⟨1,[false,false,true,true,false],[2,2,5,5,4],[lf 1,lf 2,fk 0 0 1,lf 3,lf 4,fk 0 3 4]⟩
def aP:Df:=⟨1,[true,false,true],[2,4,3],[lf 0,lf 1,fk 0 0 1,lf 2,fk 0 1 3]⟩
def nu:Df:=⟨1,[false,false,false],[2,4,3],[lf 0,lf 1,fk 0 0 1,lf 2,fk 0 1 3]⟩
def nt:Df:=⟨1,[false],[0],[lf 0]⟩
def qb:Df:=⟨0,[false],[0],[lf 0]⟩
def R1:Df:=⟨2,[true,true,true,false],[5,8,1,10],[lf 0,lf 2,fk 1 0 1,lf 1,fk 1 3 1,fk 0 2 4,lf 3,fk 1 3 6,fk 0 7 1,fk 1 6 1,fk 0 9 1]⟩
end
end Go.Proofs.YthjgndgnmkiaiaaGreatDoor
