/-
  What the laws of chapter 8 ask beside their own question is reckoned once.
-/
import Derived.Test.YtadjjadimlkkgaaGreatDoorMnEnv
import Derived.Test.YtadjjadimlkkgaaGreatDoorMnEv4
import Derived.Shelf.Sort.Plain
import Derived.Shelf.Slices.CompactS
import Derived.Shelf.Slices.In.SortNone
set_option linter.unusedVariables false
section
namespace Go.Proofs.YtadjjadimlkkgaaGreatDoor
open Go
set_option maxRecDepth 1000000

theorem Be:isTrue (Jg Tryz.prog zU 10000 1000 16 [] ⟨0,.nil⟩)=true:=Du (by decide+kernel)
end Go.Proofs.YtadjjadimlkkgaaGreatDoor
end
section
namespace Go.Proofs.YtadjjadimlkkgaaGreatDoor
open Go Go.RowKit Go.Shelf

def zF:Ren:=⟨
 fun n=>if n=125 then 102 else if n=128 then 160 else if n=129 then 161 else if n=190 then 55 else if n=258 then 101 else if n=302 then 151 else if n=303 then 152 else if n=304 then 153 else if n=305 then 154 else if n=306 then 155 else if n=307 then 156 else if n=308 then 157 else if n=309 then 158 else if n=310 then 159 else if n=329 then 201 else if n=330 then 202 else if n=333 then 200 else if n=334 then 203 else if n=335 then 204 else if n=336 then 205 else if n=344 then 235 else if n=194 then 56 else 0,
 fun n=>if n=0 then 0 else if n=3 then 3 else if n=4 then 4 else if n=5 then 5 else if n=9 then 9 else if n=31 then 41 else if n=46 then 134 else if n=51 then 177 else if n=53 then 179 else if n=131 then 84 else if n=182 then 170 else if n=183 then 171 else if n=218 then 210 else if n=222 then 214 else if n=228 then 231 else if n=229 then 35 else 0,
 fun _=>0⟩

set_option maxRecDepth 100000 in
theorem DW:Lays.n190 Tryz.prog zF:={
 mixed:=by kernel_rfl
 f125:=by kernel_rfl
 f128:=by kernel_rfl
 f129:=by kernel_rfl
 f190:=by kernel_rfl
 f258:=by kernel_rfl
 f302:=by kernel_rfl
 f303:=by kernel_rfl
 f304:=by kernel_rfl
 f305:=by kernel_rfl
 f306:=by kernel_rfl
 f307:=by kernel_rfl
 f308:=by kernel_rfl
 f309:=by kernel_rfl
 f310:=by kernel_rfl
 f329:=by kernel_rfl
 f330:=by kernel_rfl
 f333:=by kernel_rfl
 f334:=by kernel_rfl
 f335:=by kernel_rfl
 f336:=by kernel_rfl
 f344:=by kernel_rfl
 t0:=by kernel_rfl
 a0:=fun _=>by kernel_rfl
 z0:=fun _=>by kernel_rfl
 v0:=fun _=>by kernel_rfl
 t3:=by kernel_rfl
 a3:=fun _=>by kernel_rfl
 z3:=fun _=>by kernel_rfl
 v3:=fun _=>by kernel_rfl
 t4:=by kernel_rfl
 a4:=fun _=>by kernel_rfl
 z4:=fun _=>by kernel_rfl
 v4:=fun _=>by kernel_rfl
 t5:=by kernel_rfl
 a5:=fun _=>by kernel_rfl
 z5:=fun _=>by kernel_rfl
 v5:=fun _=>by kernel_rfl
 t9:=by kernel_rfl
 a9:=fun _=>by kernel_rfl
 z9:=fun _=>by kernel_rfl
 v9:=fun _=>by kernel_rfl
 t31:=by kernel_rfl
 a31:=fun _=>by kernel_rfl
 z31:=fun _=>by kernel_rfl
 v31:=fun _=>by kernel_rfl
 t46:=by kernel_rfl
 a46:=fun _=>by kernel_rfl
 z46:=fun _=>by kernel_rfl
 v46:=fun _=>by kernel_rfl
 t51:=by kernel_rfl
 a51:=fun _=>by kernel_rfl
 z51:=fun _=>by kernel_rfl
 v51:=fun _=>by kernel_rfl
 t53:=by kernel_rfl
 a53:=fun _=>by kernel_rfl
 z53:=fun _=>by kernel_rfl
 v53:=fun _=>by kernel_rfl
 t131:=by kernel_rfl
 a131:=fun _=>by kernel_rfl
 z131:=fun _=>by kernel_rfl
 v131:=fun _=>by kernel_rfl
 t182:=by kernel_rfl
 a182:=fun _=>by kernel_rfl
 z182:=fun _=>by kernel_rfl
 v182:=fun _=>by kernel_rfl
 t183:=by kernel_rfl
 a183:=fun _=>by kernel_rfl
 z183:=fun _=>by kernel_rfl
 v183:=fun _=>by kernel_rfl
 t218:=by kernel_rfl
 a218:=fun _=>by kernel_rfl
 z218:=fun _=>by kernel_rfl
 v218:=fun _=>by kernel_rfl
 t222:=by kernel_rfl
 a222:=fun _=>by kernel_rfl
 z222:=fun _=>by kernel_rfl
 v222:=fun _=>by kernel_rfl
 t228:=by kernel_rfl
 a228:=fun _=>by kernel_rfl
 z228:=fun _=>by kernel_rfl
 v228:=fun _=>by kernel_rfl
 t229:=by kernel_rfl
 a229:=fun _=>by kernel_rfl
 z229:=fun _=>by kernel_rfl
 v229:=fun _=>by kernel_rfl}
set_option maxRecDepth 100000 in
theorem DV:Lays.n194 Tryz.prog zF:={
 mixed:=by kernel_rfl
 f194:=by kernel_rfl
 t0:=by kernel_rfl
 a0:=fun _=>by kernel_rfl
 z0:=fun _=>by kernel_rfl
 v0:=fun _=>by kernel_rfl
 t3:=by kernel_rfl
 a3:=fun _=>by kernel_rfl
 z3:=fun _=>by kernel_rfl
 v3:=fun _=>by kernel_rfl
 t4:=by kernel_rfl
 a4:=fun _=>by kernel_rfl
 z4:=fun _=>by kernel_rfl
 v4:=fun _=>by kernel_rfl
 t9:=by kernel_rfl
 a9:=fun _=>by kernel_rfl
 z9:=fun _=>by kernel_rfl
 v9:=fun _=>by kernel_rfl
 t31:=by kernel_rfl
 a31:=fun _=>by kernel_rfl
 z31:=fun _=>by kernel_rfl
 v31:=fun _=>by kernel_rfl}
end Go.Proofs.YtadjjadimlkkgaaGreatDoor
end
section
namespace Go.Proofs.YtadjjadimlkkgaaGreatDoor
open Go Go.RowKit Go.Shelf Go.Sort

def VJ:List AV→Option (List (List UInt8))
 |[]=>some []
 |.str s::l=>(VJ l).map (s.map UInt8.ofNat:: ·)
 |_::_=>none
def BY(z:List UInt8):AV:=.str (z.map UInt8.toNat)
theorem qp(p:QV)(z:List UInt8):Qc p (BY z)=encStr z:=by
 show Value.string (bytesOf (z.map UInt8.toNat))=_;unfold bytesOf;rw[List.map_map]
 have:(UInt8.ofNat∘UInt8.toNat)=id:=by funext x;simp
 rw[this,List.map_id]
theorem IV{l:List AV}{zs:List (List UInt8)}(h:VJ l=some zs):zs.length=l.length∧ ∀(p:QV) (j:Nat) (z:List UInt8),zs[j]? =some z→ ∃a,l[j]? =some a∧Qc p a=encStr z:=by
 induction l generalizing zs with
 |nil=>injection h with h;subst h;exact⟨rfl,fun p j z hj=>by simp at hj⟩
 |cons a l ih=>
  cases a<;>simp only[VJ]at h<;>first|(cases h;done)|skip
  rename_i s
  cases hl:VJ l with
  |none=>rw[hl]at h;cases h
  |some zl=>
   rw[hl]at h
   injection h with h
   subst h;obtain⟨h1,h2⟩:=ih hl;refine⟨by simp[h1],fun p j z hj=>?_⟩
   cases j with
   |zero=>
    injection hj with hj
    subst hj;exact⟨_,rfl,rfl⟩
   |succ j=>exact h2 p j z hj
def ON(ms:List (Nat×Nat×Option (List AV))):List (Nat×Nat×Option (List AV)):=ms.map fun x=>(x.1,x.2.1,none)
def Vm(ms:List (Nat×Nat×Option (List AV)))(m e vs:Nat)(l:List AV):List (Nat×Nat×Option (List AV)):=(ON ms).set m (e,vs,some l)
theorem Ns{ms:List (Nat×Nat×Option (List AV))}{m e vs:Nat}{l:List AV}{cs0:Option (List AV)}(h:ms[m]? =some (e,vs,cs0)):Told ms (Vm ms m e vs l)∧(Vm ms m e vs l)[m]? =some (e,vs,some l)∧ ∀k e' vs' l',(Vm ms m e vs l)[k]? =some (e',vs',some l')→k=m∧e'=e∧l'=l:=by
 have hlt:=(List.getElem?_eq_some_iff.1 h).1
 have hself:(Vm ms m e vs l)[m]? =some (e,vs,some l):=by
  unfold Vm;rw[List.getElem?_set_self (by simp[ON,hlt])]
 have hoth: ∀k,k≠m→(Vm ms m e vs l)[k]? =(ms[k]?).map fun x=>(x.1,x.2.1,none):=fun k hk=>by
  unfold Vm;rw[List.getElem?_set_ne (fun e=>hk e.symm),ON,List.getElem?_map]
 refine⟨⟨by simp[Vm,ON],fun k e' vs' cs hk=>?_⟩,hself,fun k e' vs' l' hk=>?_⟩
 ·by_cases hkm:k=m
  ·subst hkm;rw[hself]at hk
   injection hk with hk;injection hk with h1 hk;injection hk with h2 hk
   subst h1 h2;exact⟨_,h⟩
  ·rw[hoth k hkm]at hk
   cases hmk:ms[k]? with
   |none=>rw[hmk]at hk;cases hk
   |some x=>
    rw[hmk]at hk;obtain⟨a,b,c⟩:=x
    injection hk with hk;injection hk with h1 hk;injection hk with h2 hk
    subst h1 h2;exact⟨_,rfl⟩
 ·by_cases hkm:k=m
  ·subst hkm;rw[hself]at hk
   injection hk with hk;injection hk with h1 hk;injection hk with h2 hk;injection hk with hk
   exact⟨rfl,h1.symm,hk.symm⟩
  ·rw[hoth k hkm]at hk
   cases hmk:ms[k]? with
   |none=>rw[hmk]at hk;cases hk
   |some x=>
    rw[hmk]at hk
    injection hk with hk;injection hk with h1 hk;injection hk with h2 hk
    cases hk
noncomputable def X7(F:List (List UInt8)→List (List UInt8))(V:Nat→Nat→List (List UInt8)→AV)(V0:AV→AV):List AV→St→Option (AV×St)
 |[.sl c m 0 len 1],st=>if len=0 then some (V0 (.sl c m 0 0 1),st)else match st.h.get c with
  |some (.row false ms)=>match ms[m]? with
   |some (e,vs,some l)=>if l.length=len∧0<len∧len≤1000000 then match VJ l with
     |some zs=>some (V c m zs,⟨st.n,st.h.set c (.row false (Vm ms m e vs ((F zs).map BY)))⟩)
     |none=>none
    else none
   |_=>none
  |_=>none
 |[.nils],st=>some (V0 .nils,st)
 |_,_=>none
theorem LS{P:Program}{G:Env}{f:FuncId}{F:List (List UInt8)→List (List UInt8)}{V:Nat→Nat→List (List UInt8)→AV}{V0:AV→AV}{R:Option Addr→Nat→List (List UInt8)→Value}{R0:Value→Value}(hr:Real P f)(hF: ∀zs,(F zs).length=zs.length)
  (hV: ∀(p:QV) (h:Hp) c m zs q C e,zs≠[]→p c m=some q→h c=some C→(exts C)[m]? =some e→zs.length≤e→Qc p (V c m zs)=R (some ⟨q.b,q.d,none⟩) q.e zs∧WF h (V c m zs)) (hV0: ∀(p:QV) (h:Hp) (ks:AV),WF h ks→Qc p (V0 ks)=R0 (Qc p ks)∧WF h (V0 ks))
  (hC: ∀(b o cap:Nat) (zs:List (List UInt8)) (w:World),Holds encStr w b o zs.toArray→b<w.heap.size→zs.length≤1000000→zs.length≤cap→zs≠[]→Calls P f #[.slice (some ⟨b,o,none⟩) zs.length cap] w fun e w'=>e=.returned (R (some ⟨b,o,none⟩) cap zs)∧ ∃n os,w'=grow (putRow encStr (Sort.ahead w n) b o (F zs).toArray) os)
  (hC0: ∀(a:Option Addr) (cap:Nat) (w:World),Calls P f #[.slice a 0 cap] w fun e w'=>e=.returned (R0 (.slice a 0 cap))∧w'=w):AB P G f (X7 F V V0):=by
 intro args st v st' hs hf ha;unfold X7 at hs
 split at hs
 ·rename_i c m len
  by_cases hl0:len=0
  ·rw[if_pos hl0]at hs
   injection hs with hs
   injection hs with e1 e2
   subst e1 e2 hl0;have hw:WF st.h.get (.sl c m 0 0 1):=ha.1;refine⟨hr,fun w0 p w H hG=>⟨Ab.refl _,?_⟩⟩;obtain⟨C,e,g1,g2,_,_⟩:=hw;obtain⟨q,hq⟩:=H.Ed c C g1 m (List.getElem?_eq_some_iff.1 g2).1
   have hcs:Qc p (.sl c m 0 0 1)=.slice (some ⟨q.b,q.d+0,none⟩) 0 ((q.e-0)/1):=by simp only[Qc,hq]
   have hv:=hV0 p st.h.get (.sl c m 0 0 1) ha.1;show Calls P f #[Qc p (.sl c m 0 0 1)] w _;rw[hcs]at hv ⊢;refine(hC0 _ _ w).mono fun e w'=>?_
   rintro⟨rfl,rfl⟩
   exact⟨p,by rw[hv.1],.refl H,hv.2⟩
  rw[if_neg hl0]at hs
  split at hs
  ·rename_i ms hc
   split at hs
   ·rename_i e vs l hm
    split at hs
    ·rename_i hcond;obtain⟨hlen,h0,h1M⟩:=hcond
     split at hs
     ·rename_i zs hzs
      injection hs with hs
      injection hs with e1 e2
      subst e1 e2;obtain⟨hzl,hzg⟩:=IV hzs
      have hzn:zs≠[]:=by intro e;subst e;simp at hzl;omega
      obtain⟨hT,hself,honly⟩:=Ns (l:=(F zs).map BY) hm;have hexts:exts (.row false (Vm ms m e vs ((F zs).map BY)))=exts (.row false ms):=hT.exts;have hAb:Ab st ⟨st.n,st.h.set c (.row false (Vm ms m e vs ((F zs).map BY)))⟩:=HP hc (by rw[hexts];exact List.prefix_refl _);refine⟨hr,fun w0 p w H hG=>⟨hAb,?_⟩⟩;have hR:=H.cls c _ hc;obtain⟨q,arr,el,g1,g2,g3,g4,g5,g6⟩:=hR.mem m e vs (some l) hm;obtain⟨k1,k2⟩:=g6 l rfl;have hb:=g2.own;have hblt:=(Array.getElem?_eq_some_iff.1 hb).1
      have hH:Holds encStr w q.b q.d zs.toArray:=by
       intro j hj
       have hj':j<zs.length:=by simpa using hj
       refine⟨?_,by simp[World.frozen?,hb]⟩;obtain⟨a,ha1,ha2⟩:=hzg p j _ (List.getElem?_eq_getElem hj');obtain⟨j1,_,_⟩:=k2 j a ha1;simp only[World.cell?,hb];simp only[Option.isSome_none,Bool.false_eq_true,if_false];rw[j1,ha2];simp[hj']
      have hargs:(Qk p [AV.sl c m 0 len 1]).toArray= #[.slice (some ⟨q.b,q.d,none⟩) zs.length q.e]:=by
       show #[Qc p (AV.sl c m 0 len 1)]=_;simp only[Qc,g1];rw[hzl,hlen];simp
      rw[hargs];refine(hC q.b q.d q.e zs w hH hblt (by omega) (by omega) hzn).mono fun e' w'=>?_
      rintro⟨rfl,n,os,rfl⟩
      have hv:=hV p (st.h.set c (.row false (Vm ms m e vs ((F zs).map BY)))).get c m zs q (.row false (Vm ms m e vs ((F zs).map BY))) e hzn g1 (by rw[J8];exact JV _ _ _) (by rw[hexts];simp[exts,List.getElem?_map,hm]) (by omega);refine⟨p,by rw[hv.1],?_,hv.2⟩
      have S1:=H.over hc hT hb (arr':=putCells encStr q.d (F zs).toArray arr) (by simp[putCells]) g1 rfl (fun k e1 vs1 l1 q1 hk hq1=>by
       obtain⟨rfl,rfl,rfl⟩:=honly k e1 vs1 l1 hk
       rw[g1]at hq1;injection hq1 with hq1;subst hq1
       refine⟨fun _=>⟨by rw[List.length_map,hF];omega,fun j a hj=>?_⟩,fun hne=>absurd rfl hne⟩;rw[List.getElem?_map]at hj
       cases hz:(F zs)[j]? with
       |none=>rw[hz]at hj;cases hj
       |some z=>
        rw[hz]at hj
        injection hj with hj
        subst hj;have hjl:=(List.getElem?_eq_some_iff.1 hz).1
        have hjl':j<zs.length:=by rw[←hF];exact hjl
        refine⟨?_,?_,rfl⟩
        ·rw[qp]
         have:q.d+j<arr.size:=by omega
         have hzj:=(List.getElem?_eq_some_iff.1 hz).2;simp[putCells,this,hjl,hzj]
        ·intro x hx;obtain⟨u,_,rfl⟩:=List.mem_map.1 hx
         exact u.toNat_lt)
      rw[J8]
      have hset: ∀k,(putRow encStr (Sort.ahead w n) q.b q.d (F zs).toArray).heap[k]? =(w.setRow q.b (putCells encStr q.d (F zs).toArray arr)).heap[k]? :=fun k=>by
       by_cases hk:k=q.b
       ·subst hk;rw[setRow_heap w q.b arr _ el (0,0) hb];show(w.heap.modify q.b (onCells (putCells encStr q.d (F zs).toArray)))[q.b]? =_;rw[Array.getElem?_modify,if_pos rfl,hb];rfl
       ·rw[setRow_other w q.b k _ hk];show(w.heap.modify q.b (onCells (putCells encStr q.d (F zs).toArray)))[k]? =_;rw[Array.getElem?_modify,if_neg (fun e:q.b=k=>hk e.symm)]
      refine S1.trans (S1.hr.Aj ⟨rfl,rfl,rfl,?_,fun k hk=>?_⟩)
      ·simp[World.setRow,putRow,mapBlock,Sort.ahead,grow]
      ·rw[heap_grow_old _ _ (by simpa [World.setRow,putRow,mapBlock,Sort.ahead]using hk),hset]
     ·cases hs
    ·cases hs
   ·cases hs
  ·cases hs
 ·injection hs with hs
  injection hs with e1 e2
  subst e1 e2;refine⟨hr,fun w0 p w H hG=>⟨Ab.refl _,(hC0 none 0 w).mono fun e w'=>?_⟩⟩
  rintro⟨rfl,rfl⟩
  exact⟨p,by rw[(hV0 p st.h.get .nils trivial).1];rfl,.refl H,(hV0 p st.h.get .nils trivial).2⟩
 ·cases hs
def Ar(zs:List (List UInt8)):List (List UInt8):=zs.mergeSort fun x y=>decide (x≤y)
def A3(zs:List (List UInt8)):List (List UInt8):=Lib.compact zs++List.replicate (zs.length-(Lib.compact zs).length) []
def Gz(_ _:Nat)(_:List (List UInt8)):AV:=.tup []
def Ip(c m:Nat)(zs:List (List UInt8)):AV:=.sl c m 0 (Lib.compact zs).length 1
theorem WT(zs:List (List UInt8)):(Lib.compact zs).length≤zs.length:=by
 unfold Lib.compact Lib.compactUpTo;rw[List.length_map];refine Nat.le_trans (List.length_filter_le _ _) ?_;simp
theorem SH{G:Env}:AB Tryz.prog G 55 (X7 Ar Gz fun _=>.tup []):=by
 refine LS (R:=fun _ _ _=>.tuple #[]) (R0:=fun _=>.tuple #[]) ⟨_,Tryz.func55,rfl,by decide⟩ (fun zs=>List.length_mergeSort _) (fun p h c m zs q C e _ _ _ _ _=>⟨rfl,trivial⟩) (fun p h ks _=>⟨rfl,trivial⟩) (fun b o cap zs w hH hb hsz hcap hn=>?_) (fun a cap w=>?_)
 ·exact Any.slices_Sort_string DW b o cap zs w hH hb (by omega)
 ·exact Any.slices_Sort_string_none DW a cap w
theorem BE{G:Env}:AB Tryz.prog G 56 (X7 A3 Ip id):=by
 refine LS (R:=fun a cap zs=>.slice a (Lib.compact zs).length cap) (R0:=id) ⟨_,Tryz.func56,rfl,by decide⟩ (fun zs=>?_) (fun p h c m zs q C e hn h1 h2 h3 h4=>?_) (fun p h ks hw=>⟨rfl,hw⟩) (fun b o cap zs w hH hb hsz hcap hn=>?_) (fun a cap w=>?_)
 ·have:=WT zs;simp[A3];omega
 ·have:=WT zs;refine⟨?_,?_⟩
  ·unfold Ip;simp only[Qc,h1];simp
  ·unfold Ip;exact⟨C,e,h2,h3,by decide,by omega⟩
 ·refine(Any.slices_Compact_string DV b o cap zs w hH (by omega) hcap).mono fun e w'=>?_
  rintro⟨rfl,n,rfl⟩
  exact⟨rfl,n,#[],by rw[grow_empty];rfl⟩
 ·exact Any.slices_Compact_string_empty DV a cap w
theorem NH{P:Program}{G:Env}{f:FuncId}{F:List (List UInt8)→List (List UInt8)}{V:Nat→Nat→List (List UInt8)→AV}{V0:AV→AV}{st:St}(hs:G.s f=some (X7 F V V0))(hf:Qu st){c m:Nat}{l:List AV}{zs:List (List UInt8)}(hr:UC st.h.get c m l)(hz:VJ l=some zs)(h0:zs≠[])(hb:zs.length≤1000000)(hF:(F zs).length=zs.length):
  ∃v st',Ev P G f [.sl c m 0 zs.length 1] st v st'∧v=V c m zs∧UC st'.h.get c m ((F zs).map BY)∧Si [c] st st':=by
 have hlt:=hr.lt hf;obtain⟨vs,ms,h1,h2⟩:=hr;have hl:=(IV hz).1;have hp:0<zs.length:=List.length_pos_iff.2 h0;obtain⟨hT,hself,_⟩:=Ns (l:=(F zs).map BY) h2
 have e:X7 F V V0 [.sl c m 0 zs.length 1] st=some (V c m zs,⟨st.n,st.h.set c (.row false (Vm ms m l.length vs ((F zs).map BY)))⟩):=by
  unfold X7;show(if zs.length=0 then _ else _)=_;rw[if_neg (by omega)];simp only[h1,h2];rw[if_pos ⟨hl.symm,hp,hb⟩];simp only[hz]
 refine⟨V c m zs,⟨st.n,st.h.set c (.row false (Vm ms m l.length vs ((F zs).map BY)))⟩,⟨0,1,?_⟩,rfl,⟨vs,_,by rw[J8];exact JV _ _ _,by rw[hself,List.length_map,hF,hl]⟩,⟨fun k hk=>?_,Nat.le_refl _,fun k hk hX=>?_⟩⟩
 ·show(Option.rec _ (fun sm=>sm [.sl c m 0 zs.length 1] st) (G.s f):Option (AV×St))=_;rw[hs];exact e
 ·have hk:st.n≤k:=hk;rw[J8,ZB _ _ (by omega)];exact hf k hk
 ·rw[J8,ZB _ _ (by simpa using hX)]
theorem KU{P:Program}{G:Env}{f:FuncId}{F:List (List UInt8)→List (List UInt8)}{V:Nat→Nat→List (List UInt8)→AV}{V0:AV→AV}{st:St}(hs:G.s f=some (X7 F V V0))(hf:Qu st):Ev P G f [.nils] st (V0 .nils) st:=⟨0,1,by
 show(Option.rec _ (fun sm=>sm [.nils] st) (G.s f):Option (AV×St))=_
 rw[hs];rfl⟩
theorem KT{P:Program}{G:Env}{f:FuncId}{F:List (List UInt8)→List (List UInt8)}{V:Nat→Nat→List (List UInt8)→AV}{V0:AV→AV}{st:St}(hs:G.s f=some (X7 F V V0))(hf:Qu st)(c m:Nat):Ev P G f [.sl c m 0 0 1] st (V0 (.sl c m 0 0 1)) st:=⟨0,1,by
 show(Option.rec _ (fun sm=>sm [.sl c m 0 0 1] st) (G.s f):Option (AV×St))=_;rw[hs];show X7 F V V0 [.sl c m 0 0 1] st=_
 rfl⟩
theorem AG: ∀ls:List (List Nat),VJ (ls.map AV.str)=some (ls.map (·.map UInt8.ofNat))
 |[]=>rfl
 |s::ls=>by rw[List.map_cons,VJ,AG ls];rfl
end Go.Proofs.YtadjjadimlkkgaaGreatDoor
end
