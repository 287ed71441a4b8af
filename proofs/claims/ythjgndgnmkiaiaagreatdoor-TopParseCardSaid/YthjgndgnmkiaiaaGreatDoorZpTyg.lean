/-
  What the reckoner knows of the program: its ranges over rows from behind.
-/
import Derived.Shelf.Sort.Plain
import Derived.Shelf.Slices.CompactS
import Derived.Shelf.Slices.In.SortNone
import Derived.Test.YthjgndgnmkiaiaaGreatDoorZpRrP
set_option maxRecDepth 100000
set_option linter.unusedVariables false
namespace Go.Proofs.YthjgndgnmkiaiaaGreatDoor
section
open Go

noncomputable section

def LG(l:List (FuncId×TypeId×TypeId))(f:FuncId):Option (TypeId×TypeId):=List.rec none (fun q _ ih=>Ql (Nat.beq f q.1) (some q.2) ih) l
theorem Wb{l:List (FuncId×TypeId×TypeId)}{f:FuncId}{q:TypeId×TypeId}(h:LG l f=some q):(f,q)∈l:=by
 induction l with
 |nil=>cases h
 |cons x l ih=>
  have h:Ql (Nat.beq f x.1) (some x.2) (LG l f)=some q:=h
  cases hb:Nat.beq f x.1 with
  |true=>
   rw[hb]at h
   injection h with h
   subst h;rw[Nat.eq_of_beq_eq_true hb];exact List.mem_cons_self ..
  |false=>rw[hb]at h;exact List.mem_cons_of_mem _ (ih h)
def LQ:List (FuncId×TypeId×TypeId):=
 (221,22,55)::
 (225,61,9)::
 (233,239,247)::
 []
theorem EF: ∀x∈LQ,TZ Tryz.prog x.2 x.1:=by
 intro x hx;unfold LQ at hx;rcases List.mem_cons.1 hx with rfl|hx
 ·exact⟨3,4,268,0,_,Tryz.func221,rfl,rfl,rfl,by decide+kernel⟩
 rcases List.mem_cons.1 hx with rfl|hx
 ·exact⟨3,4,271,0,_,Tryz.func225,rfl,rfl,rfl,by decide+kernel⟩
 rcases List.mem_cons.1 hx with rfl|hx
 ·exact⟨3,4,275,0,_,Tryz.func233,rfl,rfl,rfl,by decide+kernel⟩
 cases hx
def iM:Env:=⟨fun _=>false,LG LQ,fun _=>none,fun _=>True⟩
theorem eL:WT Tryz.prog iM:=⟨fun f q h=>EF (f,q) (Wb h),fun f sm h=>(nomatch h)⟩
end
theorem mixed:Tryz.prog.follows .mixedOrders=true:=by decide+kernel

end
section
open Go Go.RowKit Go.Shelf

def ly:Ren:=⟨
 fun n=>if n=125 then 283 else if n=128 then 309 else if n=129 then 171 else if n=190 then 326 else if n=258 then 335 else if n=302 then 337 else if n=303 then 338 else if n=304 then 339 else if n=305 then 340 else if n=306 then 341 else if n=307 then 342 else if n=308 then 343 else if n=309 then 344 else if n=310 then 345 else if n=329 then 320 else if n=330 then 321 else if n=333 then 346 else if n=334 then 347 else if n=335 then 348 else if n=336 then 349 else if n=344 then 350 else if n=194 then 327 else 0,
 fun n=>if n=0 then 0 else if n=3 then 3 else if n=4 then 4 else if n=5 then 5 else if n=9 then 9 else if n=31 then 61 else if n=46 then 211 else if n=51 then 218 else if n=53 then 180 else if n=131 then 256 else if n=182 then 339 else if n=183 then 340 else if n=218 then 356 else if n=222 then 360 else if n=228 then 367 else if n=229 then 114 else 0,
 fun _=>0⟩

set_option maxRecDepth 100000 in
theorem MH:Lays.n190 Tryz.prog ly:={
 mixed:=by kernel_rfl
 f125:=by kernel_rfl
 f128:=by kernel_rfl
 f129:=by kernel_rfl
 f190:=by kernel_rfl
 f258:=by kernel_rfl
 f302:=by kernel_rfl
 f303:=by kernel_rfl
 f304:=by kernel_rfl
 f305:=by kernel_rfl
 f306:=by kernel_rfl
 f307:=by kernel_rfl
 f308:=by kernel_rfl
 f309:=by kernel_rfl
 f310:=by kernel_rfl
 f329:=by kernel_rfl
 f330:=by kernel_rfl
 f333:=by kernel_rfl
 f334:=by kernel_rfl
 f335:=by kernel_rfl
 f336:=by kernel_rfl
 f344:=by kernel_rfl
 t0:=by kernel_rfl
 a0:=fun _=>by kernel_rfl
 z0:=fun _=>by kernel_rfl
 v0:=fun _=>by kernel_rfl
 t3:=by kernel_rfl
 a3:=fun _=>by kernel_rfl
 z3:=fun _=>by kernel_rfl
 v3:=fun _=>by kernel_rfl
 t4:=by kernel_rfl
 a4:=fun _=>by kernel_rfl
 z4:=fun _=>by kernel_rfl
 v4:=fun _=>by kernel_rfl
 t5:=by kernel_rfl
 a5:=fun _=>by kernel_rfl
 z5:=fun _=>by kernel_rfl
 v5:=fun _=>by kernel_rfl
 t9:=by kernel_rfl
 a9:=fun _=>by kernel_rfl
 z9:=fun _=>by kernel_rfl
 v9:=fun _=>by kernel_rfl
 t31:=by kernel_rfl
 a31:=fun _=>by kernel_rfl
 z31:=fun _=>by kernel_rfl
 v31:=fun _=>by kernel_rfl
 t46:=by kernel_rfl
 a46:=fun _=>by kernel_rfl
 z46:=fun _=>by kernel_rfl
 v46:=fun _=>by kernel_rfl
 t51:=by kernel_rfl
 a51:=fun _=>by kernel_rfl
 z51:=fun _=>by kernel_rfl
 v51:=fun _=>by kernel_rfl
 t53:=by kernel_rfl
 a53:=fun _=>by kernel_rfl
 z53:=fun _=>by kernel_rfl
 v53:=fun _=>by kernel_rfl
 t131:=by kernel_rfl
 a131:=fun _=>by kernel_rfl
 z131:=fun _=>by kernel_rfl
 v131:=fun _=>by kernel_rfl
 t182:=by kernel_rfl
 a182:=fun _=>by kernel_rfl
 z182:=fun _=>by kernel_rfl
 v182:=fun _=>by kernel_rfl
 t183:=by kernel_rfl
 a183:=fun _=>by kernel_rfl
 z183:=fun _=>by kernel_rfl
 v183:=fun _=>by kernel_rfl
 t218:=by kernel_rfl
 a218:=fun _=>by kernel_rfl
 z218:=fun _=>by kernel_rfl
 v218:=fun _=>by kernel_rfl
 t222:=by kernel_rfl
 a222:=fun _=>by kernel_rfl
 z222:=fun _=>by kernel_rfl
 v222:=fun _=>by kernel_rfl
 t228:=by kernel_rfl
 a228:=fun _=>by kernel_rfl
 z228:=fun _=>by kernel_rfl
 v228:=fun _=>by kernel_rfl
 t229:=by kernel_rfl
 a229:=fun _=>by kernel_rfl
 z229:=fun _=>by kernel_rfl
 v229:=fun _=>by kernel_rfl}
set_option maxRecDepth 100000 in
theorem MG:Lays.n194 Tryz.prog ly:={
 mixed:=by kernel_rfl
 f194:=by kernel_rfl
 t0:=by kernel_rfl
 a0:=fun _=>by kernel_rfl
 z0:=fun _=>by kernel_rfl
 v0:=fun _=>by kernel_rfl
 t3:=by kernel_rfl
 a3:=fun _=>by kernel_rfl
 z3:=fun _=>by kernel_rfl
 v3:=fun _=>by kernel_rfl
 t4:=by kernel_rfl
 a4:=fun _=>by kernel_rfl
 z4:=fun _=>by kernel_rfl
 v4:=fun _=>by kernel_rfl
 t9:=by kernel_rfl
 a9:=fun _=>by kernel_rfl
 z9:=fun _=>by kernel_rfl
 v9:=fun _=>by kernel_rfl
 t31:=by kernel_rfl
 a31:=fun _=>by kernel_rfl
 z31:=fun _=>by kernel_rfl
 v31:=fun _=>by kernel_rfl}
end
section
open Go Go.RowKit Go.Shelf Go.Sort
variable {G:Env}

def NI:List AV→Option (List (List UInt8))
 |[]=>some []
 |.str s::l=>(NI l).map (s.map UInt8.ofNat:: ·)
 |_::_=>none
def iV(z:List UInt8):AV:=.str (z.map UInt8.toNat)
theorem vv(p:Jy)(z:List UInt8):Qe p (iV z)=encStr z:=by
 show Value.string (bytesOf (z.map UInt8.toNat))=_;unfold bytesOf;rw[List.map_map]
 have:(UInt8.ofNat∘UInt8.toNat)=id:=by funext x;simp
 rw[this,List.map_id]
theorem S9{l:List AV}{zs:List (List UInt8)}(h:NI l=some zs):zs.length=l.length∧ ∀(p:Jy) (j:Nat) (z:List UInt8),zs[j]? =some z→ ∃a,l[j]? =some a∧Qe p a=encStr z:=by
 induction l generalizing zs with
 |nil=>injection h with h;subst h;exact⟨rfl,fun p j z hj=>by simp at hj⟩
 |cons a l ih=>
  cases a<;>simp only[NI]at h<;>first|(cases h;done)|skip
  rename_i s
  cases hl:NI l with
  |none=>rw[hl]at h;cases h
  |some zl=>
   rw[hl]at h
   injection h with h
   subst h;obtain⟨h1,h2⟩:=ih hl;refine⟨by simp[h1],fun p j z hj=>?_⟩
   cases j with
   |zero=>
    injection hj with hj
    subst hj;exact⟨_,rfl,rfl⟩
   |succ j=>exact h2 p j z hj
def Dv(ms:List (Nat×Nat×Option (List AV))):List (Nat×Nat×Option (List AV)):=ms.map fun x=>(x.1,x.2.1,none)
def Ey(ms:List (Nat×Nat×Option (List AV)))(m e vs:Nat)(l:List AV):List (Nat×Nat×Option (List AV)):=(Dv ms).set m (e,vs,some l)
theorem jD{ms:List (Nat×Nat×Option (List AV))}{m e vs:Nat}{l:List AV}{cs0:Option (List AV)}(h:ms[m]? =some (e,vs,cs0)):Told ms (Ey ms m e vs l)∧(Ey ms m e vs l)[m]? =some (e,vs,some l)∧ ∀k e' vs' l',(Ey ms m e vs l)[k]? =some (e',vs',some l')→k=m∧e'=e∧l'=l:=by
 have hlt:=(List.getElem?_eq_some_iff.1 h).1
 have hself:(Ey ms m e vs l)[m]? =some (e,vs,some l):=by
  unfold Ey;rw[List.getElem?_set_self (by simp[Dv,hlt])]
 have hoth: ∀k,k≠m→(Ey ms m e vs l)[k]? =(ms[k]?).map fun x=>(x.1,x.2.1,none):=fun k hk=>by
  unfold Ey;rw[List.getElem?_set_ne (fun e=>hk e.symm),Dv,List.getElem?_map]
 refine⟨⟨by simp[Ey,Dv],fun k e' vs' cs hk=>?_⟩,hself,fun k e' vs' l' hk=>?_⟩
 ·by_cases hkm:k=m
  ·subst hkm;rw[hself]at hk
   injection hk with hk;injection hk with h1 hk;injection hk with h2 hk
   subst h1 h2;exact⟨_,h⟩
  ·rw[hoth k hkm]at hk
   cases hmk:ms[k]? with
   |none=>rw[hmk]at hk;cases hk
   |some x=>
    rw[hmk]at hk;obtain⟨a,b,c⟩:=x
    injection hk with hk;injection hk with h1 hk;injection hk with h2 hk
    subst h1 h2;exact⟨_,rfl⟩
 ·by_cases hkm:k=m
  ·subst hkm;rw[hself]at hk
   injection hk with hk;injection hk with h1 hk;injection hk with h2 hk;injection hk with hk
   exact⟨rfl,h1.symm,hk.symm⟩
  ·rw[hoth k hkm]at hk
   cases hmk:ms[k]? with
   |none=>rw[hmk]at hk;cases hk
   |some x=>
    rw[hmk]at hk
    injection hk with hk;injection hk with h1 hk;injection hk with h2 hk
    cases hk
noncomputable def KI(F:List (List UInt8)→List (List UInt8))(V:Nat→Nat→List (List UInt8)→AV)(V0:AV→AV):List AV→St→Option (AV×St)
 |[.sl c m 0 len 1],st=>if len=0 then some (V0 (.sl c m 0 0 1),st)else match st.h.get c with
  |some (.row false ms)=>match ms[m]? with
   |some (e,vs,some l)=>if l.length=len∧0<len∧len≤1000000 then match NI l with
     |some zs=>some (V c m zs,⟨st.n,st.h.set c (.row false (Ey ms m e vs ((F zs).map iV)))⟩)
     |none=>none
    else none
   |_=>none
  |_=>none
 |[.nils],st=>some (V0 .nils,st)
 |_,_=>none
theorem Bc{P:Program}{f:FuncId}{F:List (List UInt8)→List (List UInt8)}{V:Nat→Nat→List (List UInt8)→AV}{V0:AV→AV}{R:Option Addr→Nat→List (List UInt8)→Value}{R0:Value→Value}(hr:Real P f)(hF: ∀zs,(F zs).length=zs.length)
  (hV: ∀(p:Jy) (h:Hp) c m zs q C e,zs≠[]→p c m=some q→h c=some C→(exts C)[m]? =some e→zs.length≤e→Qe p (V c m zs)=R (some ⟨q.b,q.d,none⟩) q.e zs∧WF h (V c m zs)) (hV0: ∀(p:Jy) (h:Hp) (ks:AV),WF h ks→Qe p (V0 ks)=R0 (Qe p ks)∧WF h (V0 ks))
  (hC: ∀(b o cap:Nat) (zs:List (List UInt8)) (w:World),Holds encStr w b o zs.toArray→b<w.heap.size→zs.length≤1000000→zs.length≤cap→zs≠[]→Calls P f #[.slice (some ⟨b,o,none⟩) zs.length cap] w fun e w'=>e=.returned (R (some ⟨b,o,none⟩) cap zs)∧ ∃n os,w'=grow (putRow encStr (Sort.ahead w n) b o (F zs).toArray) os)
  (hC0: ∀(a:Option Addr) (cap:Nat) (w:World),Calls P f #[.slice a 0 cap] w fun e w'=>e=.returned (R0 (.slice a 0 cap))∧w'=w):Vh P G f (KI F V V0):=by
 intro args st v st' hs hf ha;unfold KI at hs
 split at hs
 ·rename_i c m len
  by_cases hl0:len=0
  ·rw[if_pos hl0]at hs
   injection hs with hs
   injection hs with e1 e2
   subst e1 e2 hl0;have hw:WF st.h.get (.sl c m 0 0 1):=ha.1;refine⟨hr,fun w0 p w H hG=>⟨Ab.refl _,?_⟩⟩;obtain⟨C,e,g1,g2,_,_⟩:=hw;obtain⟨q,hq⟩:=H.Ed c C g1 m (List.getElem?_eq_some_iff.1 g2).1
   have hcs:Qe p (.sl c m 0 0 1)=.slice (some ⟨q.b,q.d+0,none⟩) 0 ((q.e-0)/1):=by simp only[Qe,hq]
   have hv:=hV0 p st.h.get (.sl c m 0 0 1) ha.1;show Calls P f #[Qe p (.sl c m 0 0 1)] w _;rw[hcs]at hv ⊢;refine(hC0 _ _ w).mono fun e w'=>?_
   rintro⟨rfl,rfl⟩
   exact⟨p,by rw[hv.1],.refl H,hv.2⟩
  rw[if_neg hl0]at hs
  split at hs
  ·rename_i ms hc
   split at hs
   ·rename_i e vs l hm
    split at hs
    ·rename_i hcond;obtain⟨hlen,h0,h1M⟩:=hcond
     split at hs
     ·rename_i zs hzs
      injection hs with hs
      injection hs with e1 e2
      subst e1 e2;obtain⟨hzl,hzg⟩:=S9 hzs
      have hzn:zs≠[]:=by intro e;subst e;simp at hzl;omega
      obtain⟨hT,hself,honly⟩:=jD (l:=(F zs).map iV) hm;have hexts:exts (.row false (Ey ms m e vs ((F zs).map iV)))=exts (.row false ms):=hT.exts;have hAb:Ab st ⟨st.n,st.h.set c (.row false (Ey ms m e vs ((F zs).map iV)))⟩:=Im hc (by rw[hexts];exact List.prefix_refl _);refine⟨hr,fun w0 p w H hG=>⟨hAb,?_⟩⟩;have hR:=H.cls c _ hc;obtain⟨q,arr,el,g1,g2,g3,g4,g5,g6⟩:=hR.mem m e vs (some l) hm;obtain⟨k1,k2⟩:=g6 l rfl;have hb:=g2.own;have hblt:=(Array.getElem?_eq_some_iff.1 hb).1
      have hH:Holds encStr w q.b q.d zs.toArray:=by
       intro j hj
       have hj':j<zs.length:=by simpa using hj
       refine⟨?_,by simp[World.frozen?,hb]⟩;obtain⟨a,ha1,ha2⟩:=hzg p j _ (List.getElem?_eq_getElem hj');obtain⟨j1,_,_⟩:=k2 j a ha1;simp only[World.cell?,hb];simp only[Option.isSome_none,Bool.false_eq_true,if_false];rw[j1,ha2];simp[hj']
      have hargs:(Qn p [AV.sl c m 0 len 1]).toArray= #[.slice (some ⟨q.b,q.d,none⟩) zs.length q.e]:=by
       show #[Qe p (AV.sl c m 0 len 1)]=_;simp only[Qe,g1];rw[hzl,hlen];simp
      rw[hargs];refine(hC q.b q.d q.e zs w hH hblt Qk Qk hzn).mono fun e' w'=>?_
      rintro⟨rfl,n,os,rfl⟩
      have hv:=hV p (st.h.set c (.row false (Ey ms m e vs ((F zs).map iV)))).get c m zs q (.row false (Ey ms m e vs ((F zs).map iV))) e hzn g1 (by rw[Uq];exact UG _ _ _) (by rw[hexts];simp[exts,List.getElem?_map,hm]) Qk;refine⟨p,by rw[hv.1],?_,hv.2⟩
      have S1:=H.over hc hT hb (arr':=putCells encStr q.d (F zs).toArray arr) (by simp[putCells]) g1 rfl (fun k e1 vs1 l1 q1 hk hq1=>by
       obtain⟨rfl,rfl,rfl⟩:=honly k e1 vs1 l1 hk
       rw[g1]at hq1;injection hq1 with hq1;subst hq1
       refine⟨fun _=>⟨by rw[List.length_map,hF];omega,fun j a hj=>?_⟩,fun hne=>absurd rfl hne⟩;rw[List.getElem?_map]at hj
       cases hz:(F zs)[j]? with
       |none=>rw[hz]at hj;cases hj
       |some z=>
        rw[hz]at hj
        injection hj with hj
        subst hj;have hjl:=(List.getElem?_eq_some_iff.1 hz).1
        have hjl':j<zs.length:=by rw[←hF];exact hjl
        refine⟨?_,?_,rfl⟩
        ·rw[vv]
         have:q.d+j<arr.size:=by omega
         have hzj:=(List.getElem?_eq_some_iff.1 hz).2;simp[putCells,this,hjl,hzj]
        ·intro x hx;obtain⟨u,_,rfl⟩:=List.mem_map.1 hx
         exact u.toNat_lt)
      rw[Uq]
      have hset: ∀k,(putRow encStr (Sort.ahead w n) q.b q.d (F zs).toArray).heap[k]? =(w.setRow q.b (putCells encStr q.d (F zs).toArray arr)).heap[k]? :=fun k=>by
       by_cases hk:k=q.b
       ·subst hk;rw[setRow_heap w q.b arr _ el (0,0) hb];show(w.heap.modify q.b (onCells (putCells encStr q.d (F zs).toArray)))[q.b]? =_;rw[Array.getElem?_modify,if_pos rfl,hb];rfl
       ·rw[setRow_other w q.b k _ hk];show(w.heap.modify q.b (onCells (putCells encStr q.d (F zs).toArray)))[k]? =_;rw[Array.getElem?_modify,if_neg (fun e:q.b=k=>hk e.symm)]
      refine S1.trans (S1.hr.Zy ⟨rfl,rfl,rfl,?_,fun k hk=>?_⟩)
      ·simp[World.setRow,putRow,mapBlock,Sort.ahead,grow]
      ·rw[heap_grow_old _ _ (by simpa [World.setRow,putRow,mapBlock,Sort.ahead]using hk),hset]
     ·cases hs
    ·cases hs
   ·cases hs
  ·cases hs
 ·injection hs with hs
  injection hs with e1 e2
  subst e1 e2;refine⟨hr,fun w0 p w H hG=>⟨Ab.refl _,(hC0 none 0 w).mono fun e w'=>?_⟩⟩
  rintro⟨rfl,rfl⟩
  exact⟨p,by rw[(hV0 p st.h.get .nils trivial).1];rfl,.refl H,(hV0 p st.h.get .nils trivial).2⟩
 ·cases hs
def aC(zs:List (List UInt8)):List (List UInt8):=zs.mergeSort fun x y=>decide (x≤y)
def vj(zs:List (List UInt8)):List (List UInt8):=Lib.compact zs++List.replicate (zs.length-(Lib.compact zs).length) []
def aB(_ _:Nat)(_:List (List UInt8)):AV:=.tup []
def qd(c m:Nat)(zs:List (List UInt8)):AV:=.sl c m 0 (Lib.compact zs).length 1
theorem Gd(zs:List (List UInt8)):(Lib.compact zs).length≤zs.length:=by
 unfold Lib.compact Lib.compactUpTo;rw[List.length_map];refine Nat.le_trans (List.length_filter_le _ _) ?_;simp
theorem ym:Vh Tryz.prog G 326 (KI aC aB fun _=>.tup []):=by
 refine Bc (R:=fun _ _ _=>.tuple #[]) (R0:=fun _=>.tuple #[]) ⟨_,Tryz.func326,rfl,by decide⟩ (fun zs=>List.length_mergeSort _) (fun p h c m zs q C e _ _ _ _ _=>⟨rfl,trivial⟩) (fun p h ks _=>⟨rfl,trivial⟩) (fun b o cap zs w hH hb hsz hcap hn=>?_) (fun a cap w=>?_)
 ·exact Any.slices_Sort_string MH b o cap zs w hH hb Qk
 ·exact Any.slices_Sort_string_none MH a cap w
theorem RD:Vh Tryz.prog G 327 (KI vj qd id):=by
 refine Bc (R:=fun a cap zs=>.slice a (Lib.compact zs).length cap) (R0:=id) ⟨_,Tryz.func327,rfl,by decide⟩ (fun zs=>?_) (fun p h c m zs q C e hn h1 h2 h3 h4=>?_) (fun p h ks hw=>⟨rfl,hw⟩) (fun b o cap zs w hH hb hsz hcap hn=>?_) (fun a cap w=>?_)
 ·have:=Gd zs;simp[vj];omega
 ·have:=Gd zs;refine⟨?_,?_⟩
  ·unfold qd;simp only[Qe,h1];simp
  ·unfold qd;exact⟨C,e,h2,h3,by decide,by omega⟩
 ·refine(Any.slices_Compact_string MG b o cap zs w hH Qk hcap).mono fun e w'=>?_
  rintro⟨rfl,n,rfl⟩
  exact⟨rfl,n,#[],by rw[grow_empty];rfl⟩
 ·exact Any.slices_Compact_string_empty MG a cap w
end
section
open Go

noncomputable section
def yk:List (FuncId×(List AV→St→Option (AV×St))):=
 (14,ET 4 I7)::
 (49,ET 2 Pn)::
 (122,qO C8)::
 (326,KI aC aB fun _=>.tup [])::
 (327,KI vj qd id)::
 []
def JF:Env:=⟨fun _=>false,LG LQ,WO yk,Lk⟩
end
theorem Nx:WT Tryz.prog JF:=⟨fun f q h=>EF (f,q) (Wb h),fun f sm h=>by
 have h:WO yk f=some sm:=h;have h:=FF h;unfold yk at h;rcases List.mem_cons.1 h with h|h
 ·injection h with e1 e2;subst e1 e2;exact Sr
 rcases List.mem_cons.1 h with h|h
 ·injection h with e1 e2;subst e1 e2;exact xR rfl
 rcases List.mem_cons.1 h with h|h
 ·injection h with e1 e2;subst e1 e2;exact ui
 rcases List.mem_cons.1 h with h|h
 ·injection h with e1 e2;subst e1 e2;exact ym
 rcases List.mem_cons.1 h with h|h
 ·injection h with e1 e2;subst e1 e2;exact RD
 cases h⟩
end
section
open Go

theorem J4:tk Tryz.prog 3=.one:=by kernel_rfl
theorem S5:Xh Tryz.prog 3=some 1:=by kernel_rfl
theorem fi:Tryz.prog.underlying 3=some (.int .i64):=by kernel_rfl
theorem Mh:tk Tryz.prog 4=.one:=by kernel_rfl
theorem wa:Xh Tryz.prog 4=some 1:=by kernel_rfl
theorem uM:Tryz.prog.underlying 5=some (.int .u8):=by kernel_rfl
theorem Qr:tk Tryz.prog 9=.one:=by kernel_rfl
theorem GZ:Xh Tryz.prog 9=some 1:=by kernel_rfl
theorem GQ:zeroOf Tryz.prog 9=some [.str []]:=by kernel_rfl
theorem ZQ:Tryz.prog.underlying 9=some (.string):=by kernel_rfl
theorem Iv:tk Tryz.prog 21=.one:=by kernel_rfl
theorem DM:Tryz.prog.underlying 21=some (.int .i32):=by kernel_rfl
theorem Jk:tk Tryz.prog 24=.one:=by kernel_rfl
theorem Jj:Tryz.prog.underlying 24=some (.slice 26):=by kernel_rfl
theorem QB:Y5 Tryz.prog 24=some 5:=by kernel_rfl
theorem Qs:tk Tryz.prog 26=.agg 5:=by kernel_rfl
theorem Q9:Xh Tryz.prog 26=some 5:=by kernel_rfl
theorem UD:zeroOf Tryz.prog 26=some [.str [],.str [],.int .i64 0,.int .i64 0,.nils]:=by kernel_rfl
theorem Hg:Jm Tryz.prog 26 0=some 0:=by kernel_rfl
theorem GI:Jm Tryz.prog 26 1=some 1:=by kernel_rfl
theorem GH:Jm Tryz.prog 26 2=some 2:=by kernel_rfl
theorem GG:Jm Tryz.prog 26 4=some 4:=by kernel_rfl
theorem AG:ai Tryz.prog 26 [(0,1),(1,1),(2,1),(3,1),(4,1)] [.str [],.str [],.int .i64 0,.int .i64 0,.nils]:=⟨⟨_,Tryz.underlying26,by kernel_rfl,by kernel_rfl⟩,UD⟩
theorem YG:tk Tryz.prog 22=.one:=by kernel_rfl
theorem Vr:Xh Tryz.prog 22=some 1:=by kernel_rfl
theorem UO:Tryz.prog.underlying 22=some (.slice 55):=by kernel_rfl
theorem YK:Y5 Tryz.prog 22=some 3:=by kernel_rfl
theorem Xg:tk Tryz.prog 23=.one:=by kernel_rfl
theorem FZ:Xh Tryz.prog 23=some 1:=by kernel_rfl
theorem Yq:Tryz.prog.underlying 23=some (.slice 31):=by kernel_rfl
theorem Vx:Y5 Tryz.prog 23=some 8:=by kernel_rfl
theorem WJ:tk Tryz.prog 28=.agg 7:=by kernel_rfl
theorem X3:Xh Tryz.prog 28=some 7:=by kernel_rfl
theorem Lo:zeroOf Tryz.prog 28=some [.nils,.nils,.str [],.str [],.int .i64 0,.int .i64 0,.nils]:=by kernel_rfl
theorem GA:Jm Tryz.prog 28 0=some 0:=by kernel_rfl
theorem G9:Jm Tryz.prog 28 1=some 1:=by kernel_rfl
theorem G8:Jm Tryz.prog 28 2=some 2:=by kernel_rfl
theorem DY:ai Tryz.prog 28 [(0,1),(1,1),(2,5)] [.nils,.nils,.str [],.str [],.int .i64 0,.int .i64 0,.nils]:=⟨⟨_,Tryz.underlying28,by kernel_rfl,by kernel_rfl⟩,Lo⟩
theorem V2:tk Tryz.prog 31=.agg 8:=by kernel_rfl
theorem X4:Xh Tryz.prog 31=some 8:=by kernel_rfl
theorem X2:zeroOf Tryz.prog 31=some [.str [],.nils,.str [],.str [],.int .i64 0,.int .i64 0,.nils,.int .i64 0]:=by kernel_rfl
theorem GF:Jm Tryz.prog 31 0=some 0:=by kernel_rfl
theorem GD:Jm Tryz.prog 31 1=some 1:=by kernel_rfl
theorem GC:Jm Tryz.prog 31 2=some 2:=by kernel_rfl
theorem DZ:ai Tryz.prog 31 [(0,1),(1,1),(2,5),(7,1)] [.str [],.nils,.str [],.str [],.int .i64 0,.int .i64 0,.nils,.int .i64 0]:=⟨⟨_,Tryz.underlying31,by kernel_rfl,by kernel_rfl⟩,X2⟩
theorem WI:Tryz.prog.underlying 61=some (.slice 9):=by kernel_rfl
theorem UZ:Y5 Tryz.prog 61=some 1:=by kernel_rfl
theorem DS:tk Tryz.prog 55=.agg 3:=by kernel_rfl
theorem DV:Xh Tryz.prog 55=some 3:=by kernel_rfl
theorem Vz:zeroOf Tryz.prog 55=some [.str [],.int .i64 0,.int .i64 0]:=by kernel_rfl
theorem GK:Jm Tryz.prog 55 0=some 0:=by kernel_rfl
theorem GJ:Jm Tryz.prog 55 1=some 1:=by kernel_rfl
theorem Pa:ai Tryz.prog 55 [(0,1),(1,1),(2,1)] [.str [],.int .i64 0,.int .i64 0]:=⟨⟨_,Tryz.underlying55,by kernel_rfl,by kernel_rfl⟩,Vz⟩
theorem AB:tk Tryz.prog 43=.one:=by kernel_rfl
theorem Wg:Tryz.prog.underlying 43=some (.slice 74):=by kernel_rfl
theorem ZL:Y5 Tryz.prog 43=some 4:=by kernel_rfl
theorem Up:tk Tryz.prog 74=.agg 4:=by kernel_rfl
theorem ES:Xh Tryz.prog 74=some 4:=by kernel_rfl
theorem XD:zeroOf Tryz.prog 74=some [.int .i64 0,.str [],.int .i64 0,.int .i64 0]:=by kernel_rfl
theorem OE:Jm Tryz.prog 74 0=some 0:=by kernel_rfl
theorem OD:Jm Tryz.prog 74 1=some 1:=by kernel_rfl
theorem OC:Jm Tryz.prog 74 2=some 2:=by kernel_rfl
theorem OB:Jm Tryz.prog 74 3=some 3:=by kernel_rfl
theorem Wx(l:List AV):Fk Tryz.prog 74 (.agg l) 0=Ve Tryz.prog 3 l 0:=by kernel_rfl
theorem Ww(l:List AV):Fk Tryz.prog 74 (.agg l) 1=Ve Tryz.prog 9 l 1:=by kernel_rfl
theorem JT(l:List AV):Fk Tryz.prog 74 (.agg l) 3=Ve Tryz.prog 3 l 3:=by kernel_rfl
theorem C6:ai Tryz.prog 74 [(0,1),(1,1),(2,1),(3,1)] [.int .i64 0,.str [],.int .i64 0,.int .i64 0]:=⟨⟨_,Tryz.underlying74,by kernel_rfl,by kernel_rfl⟩,XD⟩
theorem EM:tk Tryz.prog 33=.one:=by kernel_rfl
theorem C4:Xh Tryz.prog 33=some 1:=by kernel_rfl
theorem YF:tk Tryz.prog 76=.one:=by kernel_rfl
theorem FY:Xh Tryz.prog 76=some 1:=by kernel_rfl
theorem YE:Tryz.prog.underlying 76=some (.slice 113):=by kernel_rfl
theorem Vw:Y5 Tryz.prog 76=some 2:=by kernel_rfl
theorem VL:zeroOf Tryz.prog 108=some [.str [],.nils,.int .i64 0,.int .i64 0]:=by kernel_rfl
theorem A7:Jm Tryz.prog 108 0=some 0:=by kernel_rfl
theorem A4:Jm Tryz.prog 108 1=some 1:=by kernel_rfl
theorem A3:Jm Tryz.prog 108 2=some 2:=by kernel_rfl
theorem A0:Jm Tryz.prog 108 3=some 3:=by kernel_rfl
theorem FT:ai Tryz.prog 108 [(0,1),(1,1),(2,1),(3,1)] [.str [],.nils,.int .i64 0,.int .i64 0]:=⟨⟨_,Tryz.underlying108,by kernel_rfl,by kernel_rfl⟩,VL⟩
theorem G7:Jm Tryz.prog 113 0=some 0:=by kernel_rfl
theorem G6:Jm Tryz.prog 113 1=some 1:=by kernel_rfl
theorem UP:Cf Tryz.prog 24 26 5:=⟨Jj,by kernel_rfl,⟨_,UD,rfl⟩,by kernel_rfl,by decide,by decide+kernel⟩
theorem YH:Cf Tryz.prog 22 55 3:=⟨UO,by kernel_rfl,⟨_,Vz,rfl⟩,by kernel_rfl,by decide,by decide+kernel⟩
theorem WW:Cf Tryz.prog 23 31 8:=⟨Yq,by kernel_rfl,⟨_,X2,rfl⟩,by kernel_rfl,by decide,by decide+kernel⟩
theorem Lu:Cf Tryz.prog 61 9 1:=⟨WI,by kernel_rfl,⟨_,GQ,rfl⟩,by kernel_rfl,by decide,by decide+kernel⟩
theorem Wh:Cf Tryz.prog 43 74 4:=⟨Wg,by kernel_rfl,⟨_,XD,rfl⟩,by kernel_rfl,by decide,by decide+kernel⟩
end
section
open Go

theorem XG:tk Tryz.prog 46=.one:=by kernel_rfl
theorem Aw:zeroOf Tryz.prog 48=some [.nils,.int .i64 0,.bool false,.int .i64 0,.int .i64 0]:=by kernel_rfl
theorem Kh:Jm Tryz.prog 48 0=some 0:=by kernel_rfl
theorem Kg:Jm Tryz.prog 48 1=some 1:=by kernel_rfl
theorem Kf:Jm Tryz.prog 48 2=some 2:=by kernel_rfl
theorem Ke:Jm Tryz.prog 48 3=some 3:=by kernel_rfl
theorem Kd:Jm Tryz.prog 48 4=some 4:=by kernel_rfl
theorem Ax:ai Tryz.prog 48 [(0,1),(1,1),(2,1),(3,1),(4,1)] [.nils,.int .i64 0,.bool false,.int .i64 0,.int .i64 0]:=⟨⟨_,Tryz.underlying48,by kernel_rfl,by kernel_rfl⟩,Aw⟩
end
end Go.Proofs.YthjgndgnmkiaiaaGreatDoor
