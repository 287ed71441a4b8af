/-
  Calls that write one row of numbers anew: a rule of the reckoner. slices.Sort, slices.Compact by it.
-/
import Derived.Test.YtildagdnomiahaaGreatDoorQkSy2
import Derived.Test.YtildagdnomiahaaGreatDoorQkPoolL
namespace Go.Proofs.YtildagdnomiahaaGreatDoor
open Go Go.RowKit Go.Shelf Go.Sort
set_option linter.unusedVariables false
variable {G:Env} {P:Program} {f:FuncId} {l:List AV} {st:St} {zs:List Int}

def Z4:List AV→Option (List Int)
 |[]=>some []
 |.int .i64 s::l=>(Z4 l).map (s:: ·)
 |_::_=>none
def AP(z:Int):AV:=.int .i64 z
theorem MG(p:QS)(z:Int):Qd p (AP z)=Value.int .i64 z:=rfl
theorem XF: ∀zs:List Int,Z4 (zs.map AP)=some zs
 |[]=>rfl
 |z::zs=>by
  show(Z4 (zs.map AP)).map (z:: ·)=_;rw[XF zs];rfl
theorem Oj(h:Z4 l=some zs):l=zs.map AP:=by
 induction l generalizing zs with
 |nil=>injection h with h;subst h;rfl
 |cons a l ih=>
  unfold Z4 at h
  split at h
  ·rename_i h1;cases h1
  ·rename_i s l' h1
   injection h1 with h1 h2
   subst h1 h2
   cases hl:Z4 l with
   |none=>rw[hl]at h;cases h
   |some zl=>
    rw[hl]at h
    injection h with h
    subst h;rw[List.map_cons,←ih hl];rfl
  ·cases h
theorem Le(h:Z4 l=some zs):zs.length=l.length∧ ∀(p:QS) (j:Nat) (z:Int),zs[j]? =some z→ ∃a,l[j]? =some a∧Qd p a=Value.int .i64 z:=by
 rw[Oj h];exact⟨by simp,fun p j z hj=>⟨AP z,by rw[List.getElem?_map,hj];rfl,rfl⟩⟩
def GM(ms:List (Nat×Nat×Option (List AV))):List (Nat×Nat×Option (List AV)):=ms.map fun x=>(x.1,x.2.1,none)
def XB(ms:List (Nat×Nat×Option (List AV)))(m e vs:Nat)(l:List AV):List (Nat×Nat×Option (List AV)):=(GM ms).set m (e,vs,some l)
theorem Oc{ms:List (Nat×Nat×Option (List AV))}{m e vs:Nat}{cs0:Option (List AV)}(h:ms[m]? =some (e,vs,cs0)):Told ms (XB ms m e vs l)∧(XB ms m e vs l)[m]? =some (e,vs,some l)∧ ∀k e' vs' l',(XB ms m e vs l)[k]? =some (e',vs',some l')→k=m∧e'=e∧l'=l:=by
 have hlt:=(List.getElem?_eq_some_iff.1 h).1
 have hself:(XB ms m e vs l)[m]? =some (e,vs,some l):=by
  unfold XB;rw[List.getElem?_set_self (by simp[GM,hlt])]
 have hoth: ∀k,k≠m→(XB ms m e vs l)[k]? =(ms[k]?).map fun x=>(x.1,x.2.1,none):=fun k hk=>by
  unfold XB;rw[List.getElem?_set_ne (fun e=>hk e.symm),GM,List.getElem?_map]
 refine⟨⟨by simp[XB,GM],fun k e' vs' cs hk=>?_⟩,hself,fun k e' vs' l' hk=>?_⟩
 ·by_cases hkm:k=m
  ·subst hkm;rw[hself]at hk
   injection hk with hk;injection hk with h1 hk;injection hk with h2 hk
   subst h1 h2;exact⟨_,h⟩
  ·rw[hoth k hkm]at hk
   cases hmk:ms[k]? with
   |none=>rw[hmk]at hk;cases hk
   |some x=>
    rw[hmk]at hk;obtain⟨a,b,c⟩:=x
    injection hk with hk;injection hk with h1 hk;injection hk with h2 hk
    subst h1 h2;exact⟨_,rfl⟩
 ·by_cases hkm:k=m
  ·subst hkm;rw[hself]at hk
   injection hk with hk;injection hk with h1 hk;injection hk with h2 hk;injection hk with hk
   exact⟨rfl,h1.symm,hk.symm⟩
  ·rw[hoth k hkm]at hk
   cases hmk:ms[k]? with
   |none=>rw[hmk]at hk;cases hk
   |some x=>
    rw[hmk]at hk
    injection hk with hk;injection hk with h1 hk;injection hk with h2 hk
    cases hk
noncomputable def YB(F:List Int→List Int)(V:Nat→Nat→List Int→AV)(V0:AV→AV):List AV→St→Option (AV×St)
 |[.sl c m 0 len 1],st=>if len=0 then some (V0 (.sl c m 0 0 1),st)else match st.h.get c with
  |some (.row false ms)=>match ms[m]? with
   |some (e,vs,some l)=>if l.length=len∧0<len∧len≤1000000 then match Z4 l with
     |some zs=>some (V c m zs,⟨st.n,st.h.set c (.row false (XB ms m e vs ((F zs).map AP)))⟩)
     |none=>none
    else none
   |_=>none
  |_=>none
 |[.nils],st=>some (V0 .nils,st)
 |_,_=>none
theorem Kk{F:List Int→List Int}{V:Nat→Nat→List Int→AV}{V0:AV→AV}{R:Option Addr→Nat→List Int→Value}{R0:Value→Value}(hr:Real P f)(hF: ∀zs,(F zs).length=zs.length)
  (hV: ∀(p:QS) (h:Hp) c m zs q C e,zs≠[]→p c m=some q→h c=some C→(exts C)[m]? =some e→zs.length≤e→Qd p (V c m zs)=R (some ⟨q.b,q.d,none⟩) q.e zs∧WF h (V c m zs)) (hV0: ∀(p:QS) (h:Hp) (ks:AV),WF h ks→Qd p (V0 ks)=R0 (Qd p ks)∧WF h (V0 ks))
  (hC: ∀(b o cap:Nat) (zs:List Int) (w:World),Holds (Value.int .i64) w b o zs.toArray→b<w.heap.size→zs.length≤1000000→zs.length≤cap→zs≠[]→Calls P f #[.slice (some ⟨b,o,none⟩) zs.length cap] w fun e w'=>e=.returned (R (some ⟨b,o,none⟩) cap zs)∧ ∃n os,w'=grow (putRow (Value.int .i64) (Sort.ahead w n) b o (F zs).toArray) os)
  (hC0: ∀(a:Option Addr) (cap:Nat) (w:World),Calls P f #[.slice a 0 cap] w fun e w'=>e=.returned (R0 (.slice a 0 cap))∧w'=w):Ep P G f (YB F V V0):=by
 intro args st v st' hs hf ha;unfold YB at hs
 split at hs
 ·rename_i c m len
  by_cases hl0:len=0
  ·rw[if_pos hl0]at hs
   injection hs with hs
   injection hs with e1 e2
   subst e1 e2 hl0;have hw:WF st.h.get (.sl c m 0 0 1):=ha.1;refine⟨hr,fun w0 p w H hG=>⟨Ab.refl _,?_⟩⟩;obtain⟨C,e,g1,g2,_,_⟩:=hw;obtain⟨q,hq⟩:=H.VY c C g1 m (List.getElem?_eq_some_iff.1 g2).1
   have hcs:Qd p (.sl c m 0 0 1)=.slice (some ⟨q.b,q.d+0,none⟩) 0 ((q.e-0)/1):=by simp only[Qd,hq]
   have hv:=hV0 p st.h.get (.sl c m 0 0 1) ha.1;show Calls P f #[Qd p (.sl c m 0 0 1)] w _;rw[hcs]at hv ⊢;refine(hC0 _ _ w).mono fun e w'=>?_
   rintro⟨rfl,rfl⟩
   exact⟨p,by rw[hv.1],.refl H,hv.2⟩
  rw[if_neg hl0]at hs
  split at hs
  ·rename_i ms hc
   split at hs
   ·rename_i e vs l hm
    split at hs
    ·rename_i hcond;obtain⟨hlen,h0,h1M⟩:=hcond
     split at hs
     ·rename_i zs hzs
      injection hs with hs
      injection hs with e1 e2
      subst e1 e2;obtain⟨hzl,hzg⟩:=Le hzs
      have hzn:zs≠[]:=by intro e;subst e;simp at hzl;omega
      obtain⟨hT,hself,honly⟩:=Oc (l:=(F zs).map AP) hm;have hexts:exts (.row false (XB ms m e vs ((F zs).map AP)))=exts (.row false ms):=hT.exts;have hAb:Ab st ⟨st.n,st.h.set c (.row false (XB ms m e vs ((F zs).map AP)))⟩:=AI hc (by rw[hexts];exact List.prefix_refl _);refine⟨hr,fun w0 p w H hG=>⟨hAb,?_⟩⟩;have hR:=H.cls c _ hc;obtain⟨q,arr,el,g1,g2,g3,g4,g5,g6⟩:=hR.mem m e vs (some l) hm;obtain⟨k1,k2⟩:=g6 l rfl;have hb:=g2.own;have hblt:=(Array.getElem?_eq_some_iff.1 hb).1
      have hH:Holds (Value.int .i64) w q.b q.d zs.toArray:=by
       intro j hj
       have hj':j<zs.length:=by simpa using hj
       refine⟨?_,by simp[World.frozen?,hb]⟩;obtain⟨a,ha1,ha2⟩:=hzg p j _ (List.getElem?_eq_getElem hj');obtain⟨j1,_,_⟩:=k2 j a ha1;simp only[World.cell?,hb];simp only[Option.isSome_none,Bool.false_eq_true,if_false];rw[j1,ha2];simp[hj']
      have hargs:(Qm p [AV.sl c m 0 len 1]).toArray= #[.slice (some ⟨q.b,q.d,none⟩) zs.length q.e]:=by
       show #[Qd p (AV.sl c m 0 len 1)]=_;simp only[Qd,g1];rw[hzl,hlen];simp
      rw[hargs];refine(hC q.b q.d q.e zs w hH hblt Qe Qe hzn).mono fun e' w'=>?_
      rintro⟨rfl,n,os,rfl⟩
      have hv:=hV p (st.h.set c (.row false (XB ms m e vs ((F zs).map AP)))).get c m zs q (.row false (XB ms m e vs ((F zs).map AP))) e hzn g1 (by rw[QW];exact Jq _ _ _) (by rw[hexts];simp[exts,List.getElem?_map,hm]) Qe;refine⟨p,by rw[hv.1],?_,hv.2⟩
      have S1:=H.over hc hT hb (arr':=putCells (Value.int .i64) q.d (F zs).toArray arr) (by simp[putCells]) g1 rfl (fun k e1 vs1 l1 q1 hk hq1=>by
       obtain⟨rfl,rfl,rfl⟩:=honly k e1 vs1 l1 hk
       rw[g1]at hq1;injection hq1 with hq1;subst hq1
       refine⟨fun _=>⟨by rw[List.length_map,hF];omega,fun j a hj=>?_⟩,fun hne=>absurd rfl hne⟩;rw[List.getElem?_map]at hj
       cases hz:(F zs)[j]? with
       |none=>rw[hz]at hj;cases hj
       |some z=>
        rw[hz]at hj
        injection hj with hj
        subst hj;have hjl:=(List.getElem?_eq_some_iff.1 hz).1
        have hjl':j<zs.length:=by rw[←hF];exact hjl
        refine⟨?_,?_,rfl⟩
        ·rw[MG]
         have:q.d+j<arr.size:=by omega
         have hzj:=(List.getElem?_eq_some_iff.1 hz).2;simp[putCells,this,hjl,hzj]
        ·trivial)
      rw[QW]
      have hset: ∀k,(putRow (Value.int .i64) (Sort.ahead w n) q.b q.d (F zs).toArray).heap[k]? =(w.setRow q.b (putCells (Value.int .i64) q.d (F zs).toArray arr)).heap[k]? :=fun k=>by
       by_cases hk:k=q.b
       ·subst hk;rw[setRow_heap w q.b arr _ el (0,0) hb];show(w.heap.modify q.b (onCells (putCells (Value.int .i64) q.d (F zs).toArray)))[q.b]? =_;rw[Array.getElem?_modify,if_pos rfl,hb];rfl
       ·rw[setRow_other w q.b k _ hk];show(w.heap.modify q.b (onCells (putCells (Value.int .i64) q.d (F zs).toArray)))[k]? =_;rw[Array.getElem?_modify,if_neg (fun e:q.b=k=>hk e.symm)]
      refine S1.trans (S1.hr.VT ⟨rfl,rfl,rfl,?_,fun k hk=>?_⟩)
      ·simp[World.setRow,putRow,mapBlock,Sort.ahead,grow]
      ·rw[heap_grow_old _ _ (by simpa [World.setRow,putRow,mapBlock,Sort.ahead]using hk),hset]
     ·cases hs
    ·cases hs
   ·cases hs
  ·cases hs
 ·injection hs with hs
  injection hs with e1 e2
  subst e1 e2;refine⟨hr,fun w0 p w H hG=>⟨Ab.refl _,(hC0 none 0 w).mono fun e w'=>?_⟩⟩
  rintro⟨rfl,rfl⟩
  exact⟨p,by rw[(hV0 p st.h.get .nils trivial).1];rfl,.refl H,(hV0 p st.h.get .nils trivial).2⟩
 ·cases hs
def Ah(zs:List Int):List Int:=Lib.compact zs++List.replicate (zs.length-(Lib.compact zs).length) 0
def WG(_ _:Nat)(_:List Int):AV:=.tup []
def Ei(c m:Nat)(zs:List Int):AV:=.sl c m 0 (Lib.compact zs).length 1
theorem Yo(zs:List Int):(Lib.compact zs).length≤zs.length:=by
 unfold Lib.compact Lib.compactUpTo;rw[List.length_map];refine Nat.le_trans (List.length_filter_le _ _) ?_;simp
theorem SW:Ep Tryz.prog G 261 (YB Uy WG fun _=>.tup []):=by
 refine Kk (R:=fun _ _ _=>.tuple #[]) (R0:=fun _=>.tuple #[]) ⟨_,Tryz.func261,rfl,by decide⟩ (fun zs=>List.length_mergeSort _) (fun p h c m zs q C e _ _ _ _ _=>⟨rfl,trivial⟩) (fun p h ks _=>⟨rfl,trivial⟩) (fun b o cap zs w hH hb hsz hcap hn=>?_) (fun a cap w=>?_)
 ·exact Any.slices_Sort_int RQ b o cap zs w hH hb Qe
 ·exact Any.slices_Sort_int_none RQ a cap w
theorem GU:Ep Tryz.prog G 271 (YB Ah Ei id):=by
 refine Kk (R:=fun a cap zs=>.slice a (Lib.compact zs).length cap) (R0:=id) ⟨_,Tryz.func271,rfl,by decide⟩ (fun zs=>?_) (fun p h c m zs q C e hn h1 h2 h3 h4=>?_) (fun p h ks hw=>⟨rfl,hw⟩) (fun b o cap zs w hH hb hsz hcap hn=>?_) (fun a cap w=>?_)
 ·have:=Yo zs;simp[Ah];omega
 ·have:=Yo zs;refine⟨?_,?_⟩
  ·unfold Ei;simp only[Qd,h1];simp
  ·unfold Ei;exact⟨C,e,h2,h3,by decide,by omega⟩
 ·refine(Any.slices_Compact_int jE b o cap zs w hH Qe hcap).mono fun e w'=>?_
  rintro⟨rfl,n,rfl⟩
  exact⟨rfl,n,#[],by rw[grow_empty];rfl⟩
 ·exact Any.slices_Compact_int_empty jE a cap w
theorem A3{F:List Int→List Int}{V:Nat→Nat→List Int→AV}{V0:AV→AV}(hs:G.s f=some (YB F V V0))(hf:Qh st){c m:Nat}(hr:Qu st.h.get c m l)(hz:Z4 l=some zs)(h0:zs≠[])(hb:zs.length≤1000000)(hF:(F zs).length=zs.length):
  ∃v st',Ev P G f [.sl c m 0 zs.length 1] st v st'∧v=V c m zs∧Qu st'.h.get c m ((F zs).map AP)∧vo [c] st st':=by
 have hlt:=hr.lt hf;obtain⟨vs,ms,h1,h2⟩:=hr;have hl:=(Le hz).1;have hp:0<zs.length:=List.length_pos_iff.2 h0;obtain⟨hT,hself,_⟩:=Oc (l:=(F zs).map AP) h2
 have e:YB F V V0 [.sl c m 0 zs.length 1] st=some (V c m zs,⟨st.n,st.h.set c (.row false (XB ms m l.length vs ((F zs).map AP)))⟩):=by
  unfold YB;show(if zs.length=0 then _ else _)=_;rw[if_neg Qe];simp only[h1,h2];rw[if_pos ⟨hl.symm,hp,hb⟩];simp only[hz]
 refine⟨V c m zs,⟨st.n,st.h.set c (.row false (XB ms m l.length vs ((F zs).map AP)))⟩,⟨0,1,?_⟩,rfl,⟨vs,_,by rw[QW];exact Jq _ _ _,by rw[hself,List.length_map,hF,hl]⟩,⟨fun k hk=>?_,Nat.le_refl _,fun k hk hX=>?_⟩⟩
 ·show(Option.rec _ (fun sm=>sm [.sl c m 0 zs.length 1] st) (G.s f):Option (AV×St))=_;rw[hs];exact e
 ·have hk:st.n≤k:=hk;rw[QW,Yg _ _ Qe];exact hf k hk
 ·rw[QW,Yg _ _ (by simpa using hX)]
theorem Ec{F:List Int→List Int}{V:Nat→Nat→List Int→AV}{V0:AV→AV}(hs:G.s f=some (YB F V V0))(hf:Qh st):Ev P G f [.nils] st (V0 .nils) st:=⟨0,1,by
 show(Option.rec _ (fun sm=>sm [.nils] st) (G.s f):Option (AV×St))=_
 rw[hs];rfl⟩
theorem Eb{F:List Int→List Int}{V:Nat→Nat→List Int→AV}{V0:AV→AV}(hs:G.s f=some (YB F V V0))(hf:Qh st)(c m:Nat):Ev P G f [.sl c m 0 0 1] st (V0 (.sl c m 0 0 1)) st:=⟨0,1,by
 show(Option.rec _ (fun sm=>sm [.sl c m 0 0 1] st) (G.s f):Option (AV×St))=_;rw[hs];show YB F V V0 [.sl c m 0 0 1] st=_
 rfl⟩
end Go.Proofs.YtildagdnomiahaaGreatDoor
