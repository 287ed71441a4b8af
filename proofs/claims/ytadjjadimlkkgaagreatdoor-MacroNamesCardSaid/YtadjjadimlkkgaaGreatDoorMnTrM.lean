/-
  slices.Sort and slices.Compact of rows of one's own.
-/
import Derived.Test.YtadjjadimlkkgaaGreatDoorMnTrN
namespace Go.Proofs.YtadjjadimlkkgaaGreatDoor
open Go Go.RowKit
set_option linter.unusedVariables false

def Lt(s:List Nat):List UInt8:=s.map UInt8.ofNat
def uz(s:List UInt8):List Nat:=s.map UInt8.toNat
def WZ(l:List (List Nat)):List (List Nat):=(Ar (l.map Lt)).map uz
def Eb(l:List (List Nat)):List (List Nat):=(Lib.compact (l.map Lt)).map uz
theorem Ej(l:List (List Nat)):(Ud l).flatten=l.map AV.str:=by
 induction l with
 |nil=>rfl
 |cons s l ih=>rw[List.map_cons,←ih];rfl
theorem jO(zs:List (List UInt8)):zs.map BY=(Ud (zs.map uz)).flatten:=by
 rw[Ej,List.map_map];rfl
theorem LV(zs:List (List UInt8)):(Ar zs).length=zs.length:=List.length_mergeSort _
theorem Wc(l:List (List Nat)):(WZ l).length=l.length:=by simp[WZ,LV]
theorem Mem.uv{h0:Hp}{n0:Nat}{st:St}{M:List (Nat×Nat×List AV)}(hM:Mem h0 n0 [] st M){c m:Nat}{l:List AV}(h:(c,m,l)∈M):UC st.h.get c m l:=hM.row c m l h
theorem Mem.qb{h0:Hp}{n0:Nat}{st st':St}{L B:List (Nat×Nat×List AV)}{c m:Nat}{l l':List AV}(hM:Mem h0 n0 [] st (L++((c,m,l)::B)))(q:Si [c] st st')(hr:UC st'.h.get c m l'):Mem h0 n0 [] st' (L++((c,m,l')::B)):=by
 have hp:(L++(c,m,l)::B).Perm ((c,m,l)::(L++B)):=List.perm_middle;have h1:=hM.perm hp;have h2:=h1.BO (k:=0) rfl q hr;exact Mem.perm (h2.cast (by rfl)) (List.perm_middle (l₁:=L) (l₂:=B) (a:=(c,m,l'))).symm
theorem SI{h0:Hp}{n0:Nat}{st:St}{L A B:List (Nat×Nat×List AV)}{ks:AV}{l:List (List Nat)}(hM:Mem h0 n0 [] st (L++(A++B)))(hA:Acc n0 1 A ks (Ud l)):
  ∃v st' A',Ev Tryz.prog QU 55 [ks] st v st'∧v=.tup []∧Mem h0 n0 [] st' (L++(A'++B))∧Acc n0 1 A' ks (Ud (WZ l)):=by
 have hlen:=hA.len;have hb:=hA.Uj;rw[Qv]at hlen hb;generalize hg:Ud l=ls at hA
 cases hA with
 |none=>
  have hl:l=[]:=by
   have h:=congrArg List.length hg;rw[Qv]at h;exact List.length_eq_zero_iff.1 h
  subst hl
  exact⟨_,st,[],KU (V0:=fun _=>.tup []) (F:=Ar) (V:=Gz) rfl hM.fresh,rfl,hM,by
   have:WZ []=[]:=List.length_eq_zero_iff.1 (Wc [])
   rw[this];exact .none⟩
 |own hc hz hb'=>
  rename_i c m;subst hg
  by_cases hl:l=[]
  ·subst hl;have:WZ []=[]:=List.length_eq_zero_iff.1 (Wc []);exact⟨_,st,_,KT (V0:=fun _=>.tup []) (F:=Ar) (V:=Gz) rfl hM.fresh c m,rfl,hM,by rw[this];exact .own hc hz hb'⟩
  ·have hrow:=hM.uv (c:=c) (m:=m) (l:=(Ud l).flatten) (by simp)
   have hs:VJ (Ud l).flatten=some (l.map Lt):=by rw[Ej];exact AG l
   obtain⟨v,st',h1,h2,h3,h4⟩:=NH (F:=Ar) (V:=Gz) (V0:=fun _=>.tup []) (G:=QU) (P:=Tryz.prog) (f:=55) rfl hM.fresh hrow hs (by simpa using hl) (by simpa using hb) (LV _);have h5:(Ar (l.map Lt)).map BY=(Ud (WZ l)).flatten:=jO _;rw[h5]at h3;refine⟨v,st',[(c,m,(Ud (WZ l)).flatten)],?_,h2,Mem.qb (L:=L) (B:=B) hM h4 h3,?_⟩
   ·rw[Qv];rw[List.length_map]at h1;exact h1
   ·have:=Acc.own (m:=m) (ls:=Ud (WZ l)) hc (UD _) (by rw[Qv,Wc];exact hb);rw[Qv,Wc]at this;rw[Qv];exact this
theorem y7{h:Hp}{c m:Nat}{l:List (List Nat)}{rest:List AV}(r:UC h c m (l.map AV.str++rest))(hb:l.length≤1000000):Un h [] 1 (Ud l) (.sl c m 0 l.length 1):=by
 refine⟨by rw[Qv];rfl,by rw[Qv];omega,rfl,fun i cs hi=>?_,fun c' m' off n z' e=>?_⟩
 ·have hlt:i<l.length:=by
   have:=(List.getElem?_eq_some_iff.1 hi).1;rw[Qv]at this;exact this
  rw[YI (List.getElem?_eq_getElem hlt)]at hi
  injection hi with hi
  subst hi;refine⟨c,m,0,_,by rw[Qv],by simp,r.AH,rfl,?_⟩;rw[Nat.zero_add,Nat.mul_one,List.drop_append_of_le_length (by rw[List.length_map];omega),List.drop_eq_getElem_cons (by rw[List.length_map];exact hlt)];simp
 ·injection e with e1 e2 e3 e4 e5
  subst e1 e2 e3 e4 e5;exact⟨by simp,_,r.AH,by simp⟩
theorem H7(l:List (List Nat)):(Eb l).length≤l.length:=by
 have:=WT (l.map Lt)
 simpa [Eb]using this
end Go.Proofs.YtadjjadimlkkgaaGreatDoor
