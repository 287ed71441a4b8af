/-
  What the reckoner knows of solve: found, by a table of closed formulas.
-/
import Derived.Test.YtildagdnomiahaaGreatDoorQkMdl
import Derived.Shelf.Sort.Plain
import Derived.Shelf.Slices.CompactS
import Derived.Shelf.Slices.In.SortNone
set_option linter.unusedVariables false
namespace Go.Proofs.YtildagdnomiahaaGreatDoor
section
open Go Go.RowKit

theorem PE:Real Tryz.prog 38:=⟨_,Tryz.func38,rfl,by decide+kernel⟩
noncomputable def xO(tbl:List Et):Env:=⟨fun _=>false,CP Dz,Ll ((38,NP 49 tbl)::NO),Wz⟩
theorem TY{tbl:List Et}(ht: ∀e∈tbl,e.ok=true):Ep Tryz.prog (xO tbl) 38 (NP 49 tbl):=
 qi (G0:=PQ) PE (fun w0 p h=>h) GK mixed ht fun e m st R kv cs mp n h1 h2 h3 h4 h5 hf hR hr hRm hkv hns hm hl hs=>by
  obtain⟨⟨o,a,b,g,k,l⟩,r,s⟩:=e
  cases r with
  |true=>exact CM hf hR hr hRm hm hl hkv h1 hs h4 h5 (h3 rfl)
  |false=>exact PF hf hR hr hRm hm hl hkv h1 hs h4 h5 h2
theorem Sk{tbl:List Et}(ht: ∀e∈tbl,e.ok=true):Eu Tryz.prog (xO tbl):=⟨fun f q h=>LM (f,q) (Hy h),fun f sm h=>by
 have h:Qj (Nat.beq f 38) (some (NP 49 tbl)) (Ll NO f)=some sm:=h
 cases hb:Nat.beq f 38 with
 |true=>
  rw[hb]at h
  injection h with h
  subst h;rw[Nat.eq_of_beq_eq_true hb];exact TY ht
 |false=>
  rw[hb]at h
  exact GK.sums f sm h⟩
def Av(x:Cr):Cr:=.mk [110,111,116] 0 0 0 0 [x]
def core0:Cr:=.mk [110,111,116] 0 0 0 0 [.mk [101,120] 0 0 0 0 [.mk [97,110,100] 0 0 0 0 [.mk [115,105,110,103] 0 0 0 0 [],.mk [110,111,116] 0 0 0 0 [.mk [101,120] 1 0 0 0 [.mk [97,110,100] 0 0 0 0 [.mk [115,105,110,103] 1 0 0 0 [],.mk [108,101,115,115] 0 1 0 0 []]]]]]]
def fw:List Et:=[⟨core0,true,25⟩,⟨Av core0,false,26⟩]
theorem zo: ∀e∈fw,e.ok=true:=by decide+kernel
end
section
open Go
set_option maxRecDepth 1000000

theorem GD:isTrue (Jf Tryz.prog (xO fw) 10000 1000 16 [] ⟨0,.nil⟩)=true:=by decide+kernel
end
section
open Go Go.RowKit Go.Shelf

def ke:Ren:=⟨
 fun n=>if n=125 then 292 else if n=128 then 319 else if n=129 then 219 else if n=190 then 336 else if n=258 then 345 else if n=302 then 347 else if n=303 then 348 else if n=304 then 349 else if n=305 then 350 else if n=306 then 351 else if n=307 then 352 else if n=308 then 353 else if n=309 then 354 else if n=310 then 355 else if n=329 then 330 else if n=330 then 331 else if n=333 then 356 else if n=334 then 357 else if n=335 then 358 else if n=336 then 359 else if n=344 then 360 else if n=194 then 337 else 0,
 fun n=>if n=0 then 0 else if n=3 then 3 else if n=4 then 4 else if n=5 then 5 else if n=9 then 9 else if n=31 then 47 else if n=46 then 259 else if n=51 then 266 else if n=53 then 209 else if n=131 then 247 else if n=182 then 341 else if n=183 then 342 else if n=218 then 358 else if n=222 then 362 else if n=228 then 369 else if n=229 then 137 else 0,
 fun _=>0⟩

set_option maxRecDepth 100000 in
theorem RP:Lays.n194 Tryz.prog ke:={
 mixed:=by kernel_rfl
 f194:=by kernel_rfl
 t0:=by kernel_rfl
 a0:=fun _=>by kernel_rfl
 z0:=fun _=>by kernel_rfl
 v0:=fun _=>by kernel_rfl
 t3:=by kernel_rfl
 a3:=fun _=>by kernel_rfl
 z3:=fun _=>by kernel_rfl
 v3:=fun _=>by kernel_rfl
 t4:=by kernel_rfl
 a4:=fun _=>by kernel_rfl
 z4:=fun _=>by kernel_rfl
 v4:=fun _=>by kernel_rfl
 t9:=by kernel_rfl
 a9:=fun _=>by kernel_rfl
 z9:=fun _=>by kernel_rfl
 v9:=fun _=>by kernel_rfl
 t31:=by kernel_rfl
 a31:=fun _=>by kernel_rfl
 z31:=fun _=>by kernel_rfl
 v31:=fun _=>by kernel_rfl}
end
section
open Go Go.RowKit Go.Shelf Go.Sort

def Kn:List AV→Option (List (List UInt8))
 |[]=>some []
 |.str s::l=>(Kn l).map (s.map UInt8.ofNat:: ·)
 |_::_=>none
def aD(z:List UInt8):AV:=.str (z.map UInt8.toNat)
theorem yy(p:QS)(z:List UInt8):Qd p (aD z)=encStr z:=by
 show Value.string (bytesOf (z.map UInt8.toNat))=_;unfold bytesOf;rw[List.map_map]
 have:(UInt8.ofNat∘UInt8.toNat)=id:=by funext x;simp
 rw[this,List.map_id]
theorem DT{l:List AV}{zs:List (List UInt8)}(h:Kn l=some zs):zs.length=l.length∧ ∀(p:QS) (j:Nat) (z:List UInt8),zs[j]? =some z→ ∃a,l[j]? =some a∧Qd p a=encStr z:=by
 induction l generalizing zs with
 |nil=>injection h with h;subst h;exact⟨rfl,fun p j z hj=>by simp at hj⟩
 |cons a l ih=>
  cases a<;>simp only[Kn]at h<;>first|(cases h;done)|skip
  rename_i s
  cases hl:Kn l with
  |none=>rw[hl]at h;cases h
  |some zl=>
   rw[hl]at h
   injection h with h
   subst h;obtain⟨h1,h2⟩:=ih hl;refine⟨by simp[h1],fun p j z hj=>?_⟩
   cases j with
   |zero=>
    injection hj with hj
    subst hj;exact⟨_,rfl,rfl⟩
   |succ j=>exact h2 p j z hj
def GN(ms:List (Nat×Nat×Option (List AV))):List (Nat×Nat×Option (List AV)):=ms.map fun x=>(x.1,x.2.1,none)
def VE(ms:List (Nat×Nat×Option (List AV)))(m e vs:Nat)(l:List AV):List (Nat×Nat×Option (List AV)):=(GN ms).set m (e,vs,some l)
theorem T0{ms:List (Nat×Nat×Option (List AV))}{m e vs:Nat}{l:List AV}{cs0:Option (List AV)}(h:ms[m]? =some (e,vs,cs0)):Told ms (VE ms m e vs l)∧(VE ms m e vs l)[m]? =some (e,vs,some l)∧ ∀k e' vs' l',(VE ms m e vs l)[k]? =some (e',vs',some l')→k=m∧e'=e∧l'=l:=by
 have hlt:=(List.getElem?_eq_some_iff.1 h).1
 have hself:(VE ms m e vs l)[m]? =some (e,vs,some l):=by
  unfold VE;rw[List.getElem?_set_self (by simp[GN,hlt])]
 have hoth: ∀k,k≠m→(VE ms m e vs l)[k]? =(ms[k]?).map fun x=>(x.1,x.2.1,none):=fun k hk=>by
  unfold VE;rw[List.getElem?_set_ne (fun e=>hk e.symm),GN,List.getElem?_map]
 refine⟨⟨by simp[VE,GN],fun k e' vs' cs hk=>?_⟩,hself,fun k e' vs' l' hk=>?_⟩
 ·by_cases hkm:k=m
  ·subst hkm;rw[hself]at hk
   injection hk with hk;injection hk with h1 hk;injection hk with h2 hk
   subst h1 h2;exact⟨_,h⟩
  ·rw[hoth k hkm]at hk
   cases hmk:ms[k]? with
   |none=>rw[hmk]at hk;cases hk
   |some x=>
    rw[hmk]at hk;obtain⟨a,b,c⟩:=x
    injection hk with hk;injection hk with h1 hk;injection hk with h2 hk
    subst h1 h2;exact⟨_,rfl⟩
 ·by_cases hkm:k=m
  ·subst hkm;rw[hself]at hk
   injection hk with hk;injection hk with h1 hk;injection hk with h2 hk;injection hk with hk
   exact⟨rfl,h1.symm,hk.symm⟩
  ·rw[hoth k hkm]at hk
   cases hmk:ms[k]? with
   |none=>rw[hmk]at hk;cases hk
   |some x=>
    rw[hmk]at hk
    injection hk with hk;injection hk with h1 hk;injection hk with h2 hk
    cases hk
noncomputable def Kl(F:List (List UInt8)→List (List UInt8))(V:Nat→Nat→List (List UInt8)→AV)(V0:AV→AV):List AV→St→Option (AV×St)
 |[.sl c m 0 len 1],st=>if len=0 then some (V0 (.sl c m 0 0 1),st)else match st.h.get c with
  |some (.row false ms)=>match ms[m]? with
   |some (e,vs,some l)=>if l.length=len∧0<len∧len≤1000000 then match Kn l with
     |some zs=>some (V c m zs,⟨st.n,st.h.set c (.row false (VE ms m e vs ((F zs).map aD)))⟩)
     |none=>none
    else none
   |_=>none
  |_=>none
 |[.nils],st=>some (V0 .nils,st)
 |_,_=>none
theorem SS{P:Program}{G:Env}{f:FuncId}{F:List (List UInt8)→List (List UInt8)}{V:Nat→Nat→List (List UInt8)→AV}{V0:AV→AV}{R:Option Addr→Nat→List (List UInt8)→Value}{R0:Value→Value}(hr:Real P f)(hF: ∀zs,(F zs).length=zs.length)
  (hV: ∀(p:QS) (h:Hp) c m zs q C e,zs≠[]→p c m=some q→h c=some C→(exts C)[m]? =some e→zs.length≤e→Qd p (V c m zs)=R (some ⟨q.b,q.d,none⟩) q.e zs∧WF h (V c m zs)) (hV0: ∀(p:QS) (h:Hp) (ks:AV),WF h ks→Qd p (V0 ks)=R0 (Qd p ks)∧WF h (V0 ks))
  (hC: ∀(b o cap:Nat) (zs:List (List UInt8)) (w:World),Holds encStr w b o zs.toArray→b<w.heap.size→zs.length≤1000000→zs.length≤cap→zs≠[]→Calls P f #[.slice (some ⟨b,o,none⟩) zs.length cap] w fun e w'=>e=.returned (R (some ⟨b,o,none⟩) cap zs)∧ ∃n os,w'=grow (putRow encStr (Sort.ahead w n) b o (F zs).toArray) os)
  (hC0: ∀(a:Option Addr) (cap:Nat) (w:World),Calls P f #[.slice a 0 cap] w fun e w'=>e=.returned (R0 (.slice a 0 cap))∧w'=w):Ep P G f (Kl F V V0):=by
 intro args st v st' hs hf ha;unfold Kl at hs
 split at hs
 ·rename_i c m len
  by_cases hl0:len=0
  ·rw[if_pos hl0]at hs
   injection hs with hs
   injection hs with e1 e2
   subst e1 e2 hl0;have hw:WF st.h.get (.sl c m 0 0 1):=ha.1;refine⟨hr,fun w0 p w H hG=>⟨Ab.refl _,?_⟩⟩;obtain⟨C,e,g1,g2,_,_⟩:=hw;obtain⟨q,hq⟩:=H.VY c C g1 m (List.getElem?_eq_some_iff.1 g2).1
   have hcs:Qd p (.sl c m 0 0 1)=.slice (some ⟨q.b,q.d+0,none⟩) 0 ((q.e-0)/1):=by simp only[Qd,hq]
   have hv:=hV0 p st.h.get (.sl c m 0 0 1) ha.1;show Calls P f #[Qd p (.sl c m 0 0 1)] w _;rw[hcs]at hv ⊢;refine(hC0 _ _ w).mono fun e w'=>?_
   rintro⟨rfl,rfl⟩
   exact⟨p,by rw[hv.1],.refl H,hv.2⟩
  rw[if_neg hl0]at hs
  split at hs
  ·rename_i ms hc
   split at hs
   ·rename_i e vs l hm
    split at hs
    ·rename_i hcond;obtain⟨hlen,h0,h1M⟩:=hcond
     split at hs
     ·rename_i zs hzs
      injection hs with hs
      injection hs with e1 e2
      subst e1 e2;obtain⟨hzl,hzg⟩:=DT hzs
      have hzn:zs≠[]:=by intro e;subst e;simp at hzl;omega
      obtain⟨hT,hself,honly⟩:=T0 (l:=(F zs).map aD) hm;have hexts:exts (.row false (VE ms m e vs ((F zs).map aD)))=exts (.row false ms):=hT.exts;have hAb:Ab st ⟨st.n,st.h.set c (.row false (VE ms m e vs ((F zs).map aD)))⟩:=AI hc (by rw[hexts];exact List.prefix_refl _);refine⟨hr,fun w0 p w H hG=>⟨hAb,?_⟩⟩;have hR:=H.cls c _ hc;obtain⟨q,arr,el,g1,g2,g3,g4,g5,g6⟩:=hR.mem m e vs (some l) hm;obtain⟨k1,k2⟩:=g6 l rfl;have hb:=g2.own;have hblt:=(Array.getElem?_eq_some_iff.1 hb).1
      have hH:Holds encStr w q.b q.d zs.toArray:=by
       intro j hj
       have hj':j<zs.length:=by simpa using hj
       refine⟨?_,by simp[World.frozen?,hb]⟩;obtain⟨a,ha1,ha2⟩:=hzg p j _ (List.getElem?_eq_getElem hj');obtain⟨j1,_,_⟩:=k2 j a ha1;simp only[World.cell?,hb];simp only[Option.isSome_none,Bool.false_eq_true,if_false];rw[j1,ha2];simp[hj']
      have hargs:(Qm p [AV.sl c m 0 len 1]).toArray= #[.slice (some ⟨q.b,q.d,none⟩) zs.length q.e]:=by
       show #[Qd p (AV.sl c m 0 len 1)]=_;simp only[Qd,g1];rw[hzl,hlen];simp
      rw[hargs];refine(hC q.b q.d q.e zs w hH hblt Qe Qe hzn).mono fun e' w'=>?_
      rintro⟨rfl,n,os,rfl⟩
      have hv:=hV p (st.h.set c (.row false (VE ms m e vs ((F zs).map aD)))).get c m zs q (.row false (VE ms m e vs ((F zs).map aD))) e hzn g1 (by rw[QW];exact Jq _ _ _) (by rw[hexts];simp[exts,List.getElem?_map,hm]) Qe;refine⟨p,by rw[hv.1],?_,hv.2⟩
      have S1:=H.over hc hT hb (arr':=putCells encStr q.d (F zs).toArray arr) (by simp[putCells]) g1 rfl (fun k e1 vs1 l1 q1 hk hq1=>by
       obtain⟨rfl,rfl,rfl⟩:=honly k e1 vs1 l1 hk
       rw[g1]at hq1;injection hq1 with hq1;subst hq1
       refine⟨fun _=>⟨by rw[List.length_map,hF];omega,fun j a hj=>?_⟩,fun hne=>absurd rfl hne⟩;rw[List.getElem?_map]at hj
       cases hz:(F zs)[j]? with
       |none=>rw[hz]at hj;cases hj
       |some z=>
        rw[hz]at hj
        injection hj with hj
        subst hj;have hjl:=(List.getElem?_eq_some_iff.1 hz).1
        have hjl':j<zs.length:=by rw[←hF];exact hjl
        refine⟨?_,?_,rfl⟩
        ·rw[yy]
         have:q.d+j<arr.size:=by omega
         have hzj:=(List.getElem?_eq_some_iff.1 hz).2;simp[putCells,this,hjl,hzj]
        ·intro x hx;obtain⟨u,_,rfl⟩:=List.mem_map.1 hx
         exact u.toNat_lt)
      rw[QW]
      have hset: ∀k,(putRow encStr (Sort.ahead w n) q.b q.d (F zs).toArray).heap[k]? =(w.setRow q.b (putCells encStr q.d (F zs).toArray arr)).heap[k]? :=fun k=>by
       by_cases hk:k=q.b
       ·subst hk;rw[setRow_heap w q.b arr _ el (0,0) hb];show(w.heap.modify q.b (onCells (putCells encStr q.d (F zs).toArray)))[q.b]? =_;rw[Array.getElem?_modify,if_pos rfl,hb];rfl
       ·rw[setRow_other w q.b k _ hk];show(w.heap.modify q.b (onCells (putCells encStr q.d (F zs).toArray)))[k]? =_;rw[Array.getElem?_modify,if_neg (fun e:q.b=k=>hk e.symm)]
      refine S1.trans (S1.hr.VT ⟨rfl,rfl,rfl,?_,fun k hk=>?_⟩)
      ·simp[World.setRow,putRow,mapBlock,Sort.ahead,grow]
      ·rw[heap_grow_old _ _ (by simpa [World.setRow,putRow,mapBlock,Sort.ahead]using hk),hset]
     ·cases hs
    ·cases hs
   ·cases hs
  ·cases hs
 ·injection hs with hs
  injection hs with e1 e2
  subst e1 e2;refine⟨hr,fun w0 p w H hG=>⟨Ab.refl _,(hC0 none 0 w).mono fun e w'=>?_⟩⟩
  rintro⟨rfl,rfl⟩
  exact⟨p,by rw[(hV0 p st.h.get .nils trivial).1];rfl,.refl H,(hV0 p st.h.get .nils trivial).2⟩
 ·cases hs
def Sr(zs:List (List UInt8)):List (List UInt8):=Lib.compact zs++List.replicate (zs.length-(Lib.compact zs).length) []
def Dm(c m:Nat)(zs:List (List UInt8)):AV:=.sl c m 0 (Lib.compact zs).length 1
theorem L9(zs:List (List UInt8)):(Lib.compact zs).length≤zs.length:=by
 unfold Lib.compact Lib.compactUpTo;rw[List.length_map];refine Nat.le_trans (List.length_filter_le _ _) ?_;simp
theorem Dl{G:Env}:Ep Tryz.prog G 337 (Kl Sr Dm id):=by
 refine SS (R:=fun a cap zs=>.slice a (Lib.compact zs).length cap) (R0:=id) ⟨_,Tryz.func337,rfl,by decide⟩ (fun zs=>?_) (fun p h c m zs q C e hn h1 h2 h3 h4=>?_) (fun p h ks hw=>⟨rfl,hw⟩) (fun b o cap zs w hH hb hsz hcap hn=>?_) (fun a cap w=>?_)
 ·have:=L9 zs;simp[Sr];omega
 ·have:=L9 zs;refine⟨?_,?_⟩
  ·unfold Dm;simp only[Qd,h1];simp
  ·unfold Dm;exact⟨C,e,h2,h3,by decide,by omega⟩
 ·refine(Any.slices_Compact_string RP b o cap zs w hH Qe hcap).mono fun e w'=>?_
  rintro⟨rfl,n,rfl⟩
  exact⟨rfl,n,#[],by rw[grow_empty];rfl⟩
 ·exact Any.slices_Compact_string_empty RP a cap w
end
end Go.Proofs.YtildagdnomiahaaGreatDoor
