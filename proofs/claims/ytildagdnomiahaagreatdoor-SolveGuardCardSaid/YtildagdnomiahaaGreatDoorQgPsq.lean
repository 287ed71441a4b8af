/-
  Calls that write one row of numbers anew: a rule of the reckoner. slices.Sort, slices.Compact by it.
-/
import Derived.Test.YtildagdnomiahaaGreatDoorQgPoolL
import Derived.Lib.AppendIntMem
import Derived.Lib.ItoaLen
import Derived.Lib.Slices
import Derived.Lib.Hide
import Derived.Laws.IdiomStrings
import Derived.OwnWalk
import Derived.WalkKit
import Derived.BigCall
import Derived.Test.YtildagdnomiahaaGreatDoorQgEnv
set_option linter.unusedVariables false
namespace Go.Proofs.YtildagdnomiahaaGreatDoor
section
open Go Go.RowKit Go.Shelf Go.Sort
variable {G:Env} {P:Program} {f:FuncId} {l:List AV} {st:St} {zs:List Int}

def Zv:List AV→Option (List Int)
 |[]=>some []
 |.int .i64 s::l=>(Zv l).map (s:: ·)
 |_::_=>none
def A8(z:Int):AV:=.int .i64 z
theorem T4(p:QX)(z:Int):Qd p (A8 z)=Value.int .i64 z:=rfl
theorem X6: ∀zs:List Int,Zv (zs.map A8)=some zs
 |[]=>rfl
 |z::zs=>by
  show(Zv (zs.map A8)).map (z:: ·)=_;rw[X6 zs];rfl
theorem NI(h:Zv l=some zs):l=zs.map A8:=by
 induction l generalizing zs with
 |nil=>injection h with h;subst h;rfl
 |cons a l ih=>
  unfold Zv at h
  split at h
  ·rename_i h1;cases h1
  ·rename_i s l' h1
   injection h1 with h1 h2
   subst h1 h2
   cases hl:Zv l with
   |none=>rw[hl]at h;cases h
   |some zl=>
    rw[hl]at h
    injection h with h
    subst h;rw[List.map_cons,←ih hl];rfl
  ·cases h
theorem KE(h:Zv l=some zs):zs.length=l.length∧ ∀(p:QX) (j:Nat) (z:Int),zs[j]? =some z→ ∃a,l[j]? =some a∧Qd p a=Value.int .i64 z:=by
 rw[NI h];exact⟨by simp,fun p j z hj=>⟨A8 z,by rw[List.getElem?_map,hj];rfl,rfl⟩⟩
def Gi(ms:List (Nat×Nat×Option (List AV))):List (Nat×Nat×Option (List AV)):=ms.map fun x=>(x.1,x.2.1,none)
def X1(ms:List (Nat×Nat×Option (List AV)))(m e vs:Nat)(l:List AV):List (Nat×Nat×Option (List AV)):=(Gi ms).set m (e,vs,some l)
theorem NA{ms:List (Nat×Nat×Option (List AV))}{m e vs:Nat}{cs0:Option (List AV)}(h:ms[m]? =some (e,vs,cs0)):Told ms (X1 ms m e vs l)∧(X1 ms m e vs l)[m]? =some (e,vs,some l)∧ ∀k e' vs' l',(X1 ms m e vs l)[k]? =some (e',vs',some l')→k=m∧e'=e∧l'=l:=by
 have hlt:=(List.getElem?_eq_some_iff.1 h).1
 have hself:(X1 ms m e vs l)[m]? =some (e,vs,some l):=by
  unfold X1;rw[List.getElem?_set_self (by simp[Gi,hlt])]
 have hoth: ∀k,k≠m→(X1 ms m e vs l)[k]? =(ms[k]?).map fun x=>(x.1,x.2.1,none):=fun k hk=>by
  unfold X1;rw[List.getElem?_set_ne (fun e=>hk e.symm),Gi,List.getElem?_map]
 refine⟨⟨by simp[X1,Gi],fun k e' vs' cs hk=>?_⟩,hself,fun k e' vs' l' hk=>?_⟩
 ·by_cases hkm:k=m
  ·subst hkm;rw[hself]at hk
   injection hk with hk;injection hk with h1 hk;injection hk with h2 hk
   subst h1 h2;exact⟨_,h⟩
  ·rw[hoth k hkm]at hk
   cases hmk:ms[k]? with
   |none=>rw[hmk]at hk;cases hk
   |some x=>
    rw[hmk]at hk;obtain⟨a,b,c⟩:=x
    injection hk with hk;injection hk with h1 hk;injection hk with h2 hk
    subst h1 h2;exact⟨_,rfl⟩
 ·by_cases hkm:k=m
  ·subst hkm;rw[hself]at hk
   injection hk with hk;injection hk with h1 hk;injection hk with h2 hk;injection hk with hk
   exact⟨rfl,h1.symm,hk.symm⟩
  ·rw[hoth k hkm]at hk
   cases hmk:ms[k]? with
   |none=>rw[hmk]at hk;cases hk
   |some x=>
    rw[hmk]at hk
    injection hk with hk;injection hk with h1 hk;injection hk with h2 hk
    cases hk
noncomputable def Y3(F:List Int→List Int)(V:Nat→Nat→List Int→AV)(V0:AV→AV):List AV→St→Option (AV×St)
 |[.sl c m 0 len 1],st=>if len=0 then some (V0 (.sl c m 0 0 1),st)else match st.h.get c with
  |some (.row false ms)=>match ms[m]? with
   |some (e,vs,some l)=>if l.length=len∧0<len∧len≤1000000 then match Zv l with
     |some zs=>some (V c m zs,⟨st.n,st.h.set c (.row false (X1 ms m e vs ((F zs).map A8)))⟩)
     |none=>none
    else none
   |_=>none
  |_=>none
 |[.nils],st=>some (V0 .nils,st)
 |_,_=>none
theorem IQ{F:List Int→List Int}{V:Nat→Nat→List Int→AV}{V0:AV→AV}{R:Option Addr→Nat→List Int→Value}{R0:Value→Value}(hr:Real P f)(hF: ∀zs,(F zs).length=zs.length)
  (hV: ∀(p:QX) (h:Hp) c m zs q C e,zs≠[]→p c m=some q→h c=some C→(exts C)[m]? =some e→zs.length≤e→Qd p (V c m zs)=R (some ⟨q.b,q.d,none⟩) q.e zs∧WF h (V c m zs)) (hV0: ∀(p:QX) (h:Hp) (ks:AV),WF h ks→Qd p (V0 ks)=R0 (Qd p ks)∧WF h (V0 ks))
  (hC: ∀(b o cap:Nat) (zs:List Int) (w:World),Holds (Value.int .i64) w b o zs.toArray→b<w.heap.size→zs.length≤1000000→zs.length≤cap→zs≠[]→Calls P f #[.slice (some ⟨b,o,none⟩) zs.length cap] w fun e w'=>e=.returned (R (some ⟨b,o,none⟩) cap zs)∧ ∃n os,w'=grow (putRow (Value.int .i64) (Sort.ahead w n) b o (F zs).toArray) os)
  (hC0: ∀(a:Option Addr) (cap:Nat) (w:World),Calls P f #[.slice a 0 cap] w fun e w'=>e=.returned (R0 (.slice a 0 cap))∧w'=w):HT P G f (Y3 F V V0):=by
 intro args st v st' hs hf ha;unfold Y3 at hs
 split at hs
 ·rename_i c m len
  by_cases hl0:len=0
  ·rw[if_pos hl0]at hs
   injection hs with hs
   injection hs with e1 e2
   subst e1 e2 hl0;have hw:WF st.h.get (.sl c m 0 0 1):=ha.1;refine⟨hr,fun w0 p w H hG=>⟨Ab.refl _,?_⟩⟩;obtain⟨C,e,g1,g2,_,_⟩:=hw;obtain⟨q,hq⟩:=H.Wg c C g1 m (List.getElem?_eq_some_iff.1 g2).1
   have hcs:Qd p (.sl c m 0 0 1)=.slice (some ⟨q.b,q.d+0,none⟩) 0 ((q.e-0)/1):=by simp only[Qd,hq]
   have hv:=hV0 p st.h.get (.sl c m 0 0 1) ha.1;show Calls P f #[Qd p (.sl c m 0 0 1)] w _;rw[hcs]at hv ⊢;refine(hC0 _ _ w).mono fun e w'=>?_
   rintro⟨rfl,rfl⟩
   exact⟨p,by rw[hv.1],.refl H,hv.2⟩
  rw[if_neg hl0]at hs
  split at hs
  ·rename_i ms hc
   split at hs
   ·rename_i e vs l hm
    split at hs
    ·rename_i hcond;obtain⟨hlen,h0,h1M⟩:=hcond
     split at hs
     ·rename_i zs hzs
      injection hs with hs
      injection hs with e1 e2
      subst e1 e2;obtain⟨hzl,hzg⟩:=KE hzs
      have hzn:zs≠[]:=by intro e;subst e;simp at hzl;omega
      obtain⟨hT,hself,honly⟩:=NA (l:=(F zs).map A8) hm;have hexts:exts (.row false (X1 ms m e vs ((F zs).map A8)))=exts (.row false ms):=hT.exts;have hAb:Ab st ⟨st.n,st.h.set c (.row false (X1 ms m e vs ((F zs).map A8)))⟩:=Hr hc (by rw[hexts];exact List.prefix_refl _);refine⟨hr,fun w0 p w H hG=>⟨hAb,?_⟩⟩;have hR:=H.cls c _ hc;obtain⟨q,arr,el,g1,g2,g3,g4,g5,g6⟩:=hR.mem m e vs (some l) hm;obtain⟨k1,k2⟩:=g6 l rfl;have hb:=g2.own;have hblt:=(Array.getElem?_eq_some_iff.1 hb).1
      have hH:Holds (Value.int .i64) w q.b q.d zs.toArray:=by
       intro j hj
       have hj':j<zs.length:=by simpa using hj
       refine⟨?_,by simp[World.frozen?,hb]⟩;obtain⟨a,ha1,ha2⟩:=hzg p j _ (List.getElem?_eq_getElem hj');obtain⟨j1,_,_⟩:=k2 j a ha1;simp only[World.cell?,hb];simp only[Option.isSome_none,Bool.false_eq_true,if_false];rw[j1,ha2];simp[hj']
      have hargs:(Qm p [AV.sl c m 0 len 1]).toArray= #[.slice (some ⟨q.b,q.d,none⟩) zs.length q.e]:=by
       show #[Qd p (AV.sl c m 0 len 1)]=_;simp only[Qd,g1];rw[hzl,hlen];simp
      rw[hargs];refine(hC q.b q.d q.e zs w hH hblt Qe Qe hzn).mono fun e' w'=>?_
      rintro⟨rfl,n,os,rfl⟩
      have hv:=hV p (st.h.set c (.row false (X1 ms m e vs ((F zs).map A8)))).get c m zs q (.row false (X1 ms m e vs ((F zs).map A8))) e hzn g1 (by rw[Ja];exact Jz _ _ _) (by rw[hexts];simp[exts,List.getElem?_map,hm]) Qe;refine⟨p,by rw[hv.1],?_,hv.2⟩
      have S1:=H.over hc hT hb (arr':=putCells (Value.int .i64) q.d (F zs).toArray arr) (by simp[putCells]) g1 rfl (fun k e1 vs1 l1 q1 hk hq1=>by
       obtain⟨rfl,rfl,rfl⟩:=honly k e1 vs1 l1 hk
       rw[g1]at hq1;injection hq1 with hq1;subst hq1
       refine⟨fun _=>⟨by rw[List.length_map,hF];omega,fun j a hj=>?_⟩,fun hne=>absurd rfl hne⟩;rw[List.getElem?_map]at hj
       cases hz:(F zs)[j]? with
       |none=>rw[hz]at hj;cases hj
       |some z=>
        rw[hz]at hj
        injection hj with hj
        subst hj;have hjl:=(List.getElem?_eq_some_iff.1 hz).1
        have hjl':j<zs.length:=by rw[←hF];exact hjl
        refine⟨?_,?_,rfl⟩
        ·rw[T4]
         have:q.d+j<arr.size:=by omega
         have hzj:=(List.getElem?_eq_some_iff.1 hz).2;simp[putCells,this,hjl,hzj]
        ·trivial)
      rw[Ja]
      have hset: ∀k,(putRow (Value.int .i64) (Sort.ahead w n) q.b q.d (F zs).toArray).heap[k]? =(w.setRow q.b (putCells (Value.int .i64) q.d (F zs).toArray arr)).heap[k]? :=fun k=>by
       by_cases hk:k=q.b
       ·subst hk;rw[setRow_heap w q.b arr _ el (0,0) hb];show(w.heap.modify q.b (onCells (putCells (Value.int .i64) q.d (F zs).toArray)))[q.b]? =_;rw[Array.getElem?_modify,if_pos rfl,hb];rfl
       ·rw[setRow_other w q.b k _ hk];show(w.heap.modify q.b (onCells (putCells (Value.int .i64) q.d (F zs).toArray)))[k]? =_;rw[Array.getElem?_modify,if_neg (fun e:q.b=k=>hk e.symm)]
      refine S1.trans (S1.hr.E7 ⟨rfl,rfl,rfl,?_,fun k hk=>?_⟩)
      ·simp[World.setRow,putRow,mapBlock,Sort.ahead,grow]
      ·rw[heap_grow_old _ _ (by simpa [World.setRow,putRow,mapBlock,Sort.ahead]using hk),hset]
     ·cases hs
    ·cases hs
   ·cases hs
  ·cases hs
 ·injection hs with hs
  injection hs with e1 e2
  subst e1 e2;refine⟨hr,fun w0 p w H hG=>⟨Ab.refl _,(hC0 none 0 w).mono fun e w'=>?_⟩⟩
  rintro⟨rfl,rfl⟩
  exact⟨p,by rw[(hV0 p st.h.get .nils trivial).1];rfl,.refl H,(hV0 p st.h.get .nils trivial).2⟩
 ·cases hs
def EO(zs:List Int):List Int:=Lib.compact zs++List.replicate (zs.length-(Lib.compact zs).length) 0
def W4(_ _:Nat)(_:List Int):AV:=.tup []
def WY(c m:Nat)(zs:List Int):AV:=.sl c m 0 (Lib.compact zs).length 1
theorem Yl(zs:List Int):(Lib.compact zs).length≤zs.length:=by
 unfold Lib.compact Lib.compactUpTo;rw[List.length_map];refine Nat.le_trans (List.length_filter_le _ _) ?_;simp
theorem RM:HT Tryz.prog G 261 (Y3 Uu W4 fun _=>.tup []):=by
 refine IQ (R:=fun _ _ _=>.tuple #[]) (R0:=fun _=>.tuple #[]) ⟨_,Tryz.func261,rfl,by decide⟩ (fun zs=>List.length_mergeSort _) (fun p h c m zs q C e _ _ _ _ _=>⟨rfl,trivial⟩) (fun p h ks _=>⟨rfl,trivial⟩) (fun b o cap zs w hH hb hsz hcap hn=>?_) (fun a cap w=>?_)
 ·exact Any.slices_Sort_int PY b o cap zs w hH hb Qe
 ·exact Any.slices_Sort_int_none PY a cap w
theorem Gn:HT Tryz.prog G 271 (Y3 EO WY id):=by
 refine IQ (R:=fun a cap zs=>.slice a (Lib.compact zs).length cap) (R0:=id) ⟨_,Tryz.func271,rfl,by decide⟩ (fun zs=>?_) (fun p h c m zs q C e hn h1 h2 h3 h4=>?_) (fun p h ks hw=>⟨rfl,hw⟩) (fun b o cap zs w hH hb hsz hcap hn=>?_) (fun a cap w=>?_)
 ·have:=Yl zs;simp[EO];omega
 ·have:=Yl zs;refine⟨?_,?_⟩
  ·unfold WY;simp only[Qd,h1];simp
  ·unfold WY;exact⟨C,e,h2,h3,by decide,by omega⟩
 ·refine(Any.slices_Compact_int MS b o cap zs w hH Qe hcap).mono fun e w'=>?_
  rintro⟨rfl,n,rfl⟩
  exact⟨rfl,n,#[],by rw[grow_empty];rfl⟩
 ·exact Any.slices_Compact_int_empty MS a cap w
theorem Ae{F:List Int→List Int}{V:Nat→Nat→List Int→AV}{V0:AV→AV}(hs:G.s f=some (Y3 F V V0))(hf:Qg st){c m:Nat}(hr:Qw st.h.get c m l)(hz:Zv l=some zs)(h0:zs≠[])(hb:zs.length≤1000000)(hF:(F zs).length=zs.length):
  ∃v st',Ev P G f [.sl c m 0 zs.length 1] st v st'∧v=V c m zs∧Qw st'.h.get c m ((F zs).map A8)∧yQ [c] st st':=by
 have hlt:=hr.lt hf;obtain⟨vs,ms,h1,h2⟩:=hr;have hl:=(KE hz).1;have hp:0<zs.length:=List.length_pos_iff.2 h0;obtain⟨hT,hself,_⟩:=NA (l:=(F zs).map A8) h2
 have e:Y3 F V V0 [.sl c m 0 zs.length 1] st=some (V c m zs,⟨st.n,st.h.set c (.row false (X1 ms m l.length vs ((F zs).map A8)))⟩):=by
  unfold Y3;show(if zs.length=0 then _ else _)=_;rw[if_neg Qe];simp only[h1,h2];rw[if_pos ⟨hl.symm,hp,hb⟩];simp only[hz]
 refine⟨V c m zs,⟨st.n,st.h.set c (.row false (X1 ms m l.length vs ((F zs).map A8)))⟩,⟨0,1,?_⟩,rfl,⟨vs,_,by rw[Ja];exact Jz _ _ _,by rw[hself,List.length_map,hF,hl]⟩,⟨fun k hk=>?_,Nat.le_refl _,fun k hk hX=>?_⟩⟩
 ·show(Option.rec _ (fun sm=>sm [.sl c m 0 zs.length 1] st) (G.s f):Option (AV×St))=_;rw[hs];exact e
 ·have hk:st.n≤k:=hk;rw[Ja,Ye _ _ Qe];exact hf k hk
 ·rw[Ja,Ye _ _ (by simpa using hX)]
theorem WT{F:List Int→List Int}{V:Nat→Nat→List Int→AV}{V0:AV→AV}(hs:G.s f=some (Y3 F V V0))(hf:Qg st):Ev P G f [.nils] st (V0 .nils) st:=⟨0,1,by
 show(Option.rec _ (fun sm=>sm [.nils] st) (G.s f):Option (AV×St))=_
 rw[hs];rfl⟩
theorem WS{F:List Int→List Int}{V:Nat→Nat→List Int→AV}{V0:AV→AV}(hs:G.s f=some (Y3 F V V0))(hf:Qg st)(c m:Nat):Ev P G f [.sl c m 0 0 1] st (V0 (.sl c m 0 0 1)) st:=⟨0,1,by
 show(Option.rec _ (fun sm=>sm [.sl c m 0 0 1] st) (G.s f):Option (AV×St))=_;rw[hs];show Y3 F V V0 [.sl c m 0 0 1] st=_
 rfl⟩
end
section
open Go Go.Shelf Go.RowKit Go.Sort

theorem qg:(Tryz.prog.info? 5).map (fun i=>(i.zero,i.size,i.bytes))=some (some (.int .u8 0),1,1):=by kernel_rfl
def VX:List Int→List UInt8
 |[]=>[]
 |n::l=>Lib.itoa n++44::VX l
theorem BL: ∀(a b:List Int),VX (a++b)=VX a++VX b
 |[],b=>rfl
 |n::a,b=>by rw[List.cons_append,VX,VX,BL a b,List.append_assoc];rfl
theorem S0{zs:List Int}{k:Nat}{z:Int}(h:zs[k]? =some z):VX (zs.take (k+1))=VX (zs.take k)++(Lib.itoa z++[44]):=by
 rw[List.take_add_one,h,BL];rfl
theorem BK: ∀l:List Int,(∀z∈l,-9223372036854775808≤z∧z≤9223372036854775807)→(VX l).length≤22 *l.length
 |[],_=>by simp[VX]
 |n::l,h=>by
  have h1:=BK l fun z hz=>h z (List.mem_cons_of_mem _ hz);have h2:=h n (List.mem_cons_self ..);have h3:=Lib.itoa_length_le n h2.1 h2.2;rw[VX,List.length_append,List.length_cons,List.length_cons];omega
theorem qb: ∀l:List Int,(VX l).map UInt8.toNat=Yq l
 |[]=>rfl
 |n::l=>by rw[VX,Yq,List.map_append,List.map_cons,qb l];rfl

set_option maxHeartbeats 6400000 in
set_option maxRecDepth 100000 in
theorem Ra(A:Option Addr)(blk off cap:Nat)(zs:List Int)(w:World)(hz: ∀z∈zs,-9223372036854775808≤z∧z≤9223372036854775807)(hH:Holds (Value.int .i64) w blk off zs.toArray)(hA:0<zs.length→A=some ⟨blk,off,none⟩∧blk<w.heap.size)(hl:zs.length≤1000000)
  (htab:Lib.TabIs Tryz.prog w "internal/strconv.uint64pow10" .u64 Lib.pow10Tab):
  Calls Tryz.prog 300 #[.slice A zs.length cap] w fun e w'=>e=.returned (.string ⟨(VX zs).toArray⟩)∧Below w.heap.size w w':=by
 obtain⟨i0,hi,hz0,hz1,hz2⟩:=info_parts qg;have hT:=Lib.tabBelow_of_tabIs htab;have HH:=Lib.hid hH;clear hH
 go_enter Tryz.func300,Tryz.ntmps300
 go_wp2
 go_loopg [3,8] zs.length (fun q v3 v8 wr=> ∃k:Nat,q=zs.length-k∧k≤zs.length∧v8=.int .i64 k∧wr.ownsRow w.heap.size 5 1 v3 (VX (zs.take k)).length (Lib.byteCells (VX (zs.take k)))∧Below w.heap.size w wr)
 case atStart=>exact⟨0,by omega,Nat.zero_le _,rfl,World.ownsRow_nil _ _ _ _,Below.refl _ _⟩
 case round=>
  obtain⟨k,hq,hk,rfl,hown,hb⟩:=hrel
  by_cases hlt:k<zs.length
  ·obtain⟨rfl,hblk⟩:=hA Qe;obtain⟨c1,f1⟩:=HH.out k (by simpa using hlt)
   have c2:wr.cell? ⟨blk,off+k,none⟩=some (.int .i64 (zs[k])):=by
    rw[hb.cell (p:=⟨blk,off+k,none⟩) hblk,c1];simp[getElem!_pos,hlt]
   have hget:zs[k]? =some zs[k]:=List.getElem?_eq_getElem hlt;have hbz:=hz _ (List.getElem_mem hlt);obtain⟨z,hzk⟩: ∃z,z=zs[k]:=⟨_,rfl⟩;rw[←hzk]at c2 hget hbz;have hlz:=Lib.itoa_length_le z hbz.1 hbz.2;have hkl:=BK (zs.take k) fun z hz'=>hz z (List.mem_of_mem_take hz');rw[List.length_take]at hkl;have HG:=Lib.hid hget;have HK:=Lib.hid hzk;clear hget hzk;obtain⟨L,hL⟩: ∃L,L=VX (zs.take k):=⟨_,rfl⟩;rw[←hL]at hown hkl;have HL:=Lib.hid hL;clear hL
   go_wp2_with (go_at_call 323;refine(Any.strconv_AppendInt_10 MR w.heap.size L.length z hbz.1 hbz.2 _ _ wr hown hb.size Qe (hT.on hb)).mono ?_;rintro e w1 ⟨v1,rfl,hown1,hnx1,-⟩;refine Hid.out ?_)
   refine Lib.hid ?_;have hown1:w1.ownsRow w.heap.size 5 1 v1 (L.length+(Lib.itoa z).length) (Lib.byteCells L++Lib.byteCells (Lib.itoa z)):=hown1;have hs1:=hnx1.size;have hs2:=hb.size
   go_wp2_with (at_builtin;refine wpList_append_own _ rfl _ _ 66 rfl w.heap.size 5 i0 (.int .u8 0) 1 1 Tryz.underlying66 hi hz0 hz1 hz2 rfl Q8 _ _ _ rfl (hown1.alloc _) ⟨w1.heap.size,0,none⟩ 1 1 [Value.int .u8 44] rfl rfl ?c1 ?c2 ?c3 ?c4 ?c5 ?_)
   case c1=>exact Tc _ _ _ _ rfl
   case c2=>intro u hu;simp at hu;subst hu;rfl
   case c3=>unfold maxLen;omega
   case c4=>omega
   case c5=>simp;omega
   intro v2 w2 hown2 hgrow _;have hnx2:Below w.heap.size w w2:=((hb.trans hnx1).alloc (by have:=hnx1.size;have:=hb.size;omega) _).grown hgrow (by have:=hnx1.size;have:=hb.size;simp;omega) (fun k hk=>(hown1.lt k hk).1)
   go_wp2
   go_roundg (zs.length-(k+1))
   case measure=>omega
   case rel=>
    refine⟨k+1,rfl,by omega,rfl,?_,hnx2⟩;rw[S0 HG.out,←HL.out]
    have e1:Lib.byteCells (L++(Lib.itoa z++[44]))=Lib.byteCells L++(Lib.byteCells (Lib.itoa z)++[Value.int .u8 44]):=by simp[Lib.byteCells]
    have e2:(L++(Lib.itoa z++[44])).length=L.length+(Lib.itoa z).length+1:=by simp;omega
    rw[e1,e2]
    simpa [List.append_assoc]using hown2
  ·have hkk:zs.take k=zs:=List.take_of_length_le Qe;rw[hkk]at hown;obtain⟨l,hl'⟩: ∃l,l=VX zs:=⟨_,rfl⟩;rw[←hl']at hown;have HL:=Lib.hid hl';clear hl';rcases hown.2 with⟨rfl,h0⟩|⟨g,cap',cur,rfl,-,-,-,-,-,-⟩
   ·have hcv:(convert 66 9 (.slice none 0 0)).run Tryz.prog wr=.ok (.string ⟨#[]⟩) wr:=by
     rw[run_convert_bytes_string wr 66 9 5 none 0 0 Tryz.underlying66 Tryz.underlying5 Tryz.underlying9];simp[Conv.bytesToString];rfl
    go_wp2
    go_ret
    have h1:=HL.out;have h2:l=[]:=List.length_eq_zero_iff.1 Qe;rw[←h1,h2];exact⟨rfl,hb⟩
   ·have hcv:=run_convert_bytes_back (P:=Tryz.prog) wr 66 9 5 ⟨g,0,none⟩ cap' l Tryz.underlying66 Tryz.underlying5 Tryz.underlying9 (fun j hj=>hown.cells (g:=g) rfl j _ (by simp[Lib.byteCells,hj]))
    go_wp2
    go_ret
    rw[←HL.out];exact⟨rfl,hb⟩
end
section
open Go Go.RowKit Go.Shelf Go.Sort

noncomputable def Cp:Nat→Nat→List Nat→List Nat
 |0,_,acc=>acc
 |f+1,u,acc=>Ql (Nat.ble u 9) ((48+u)::acc) (Cp f (u/10) ((48+u % 10)::acc))
noncomputable def zh:Int→List Nat
 |.ofNat u=>Cp 20 u []
 |.negSucc u=>45::Cp 20 (u+1) []
noncomputable def yj:List Int→List Nat
 |[]=>[]
 |n::l=>zh n++44::yj l
theorem Co: ∀(f u:Nat) (acc:List Nat),u<10^(f+1)→Cp (f+1) u acc=(Lib.decDigits u).map UInt8.toNat++acc:=by
 intro f
 induction f with
 |zero=>
  intro u acc h
  have h9:u<10:=by simpa using h
  rw[Cp,Lib.decDigits,dif_pos h9,Nat.ble_eq_true_of_le Qe,Qv,List.map_singleton,Wf u h9];rfl
 |succ f ih=>
  intro u acc h;rw[Cp,Lib.decDigits]
  by_cases h9:u<10
  ·rw[dif_pos h9,Nat.ble_eq_true_of_le Qe,Qv,List.map_singleton,Wf u h9];rfl
  ·have hb:Nat.ble u 9=false:=by
    cases hb:Nat.ble u 9 with
    |false=>rfl
    |true=>have:=Nat.le_of_ble_eq_true hb;omega
   rw[dif_neg h9,hb,Qr,ih (u/10) _ (by rw[Nat.pow_succ]at h;omega),List.map_append,List.map_singleton,Wf _ (Nat.mod_lt _ Q8),List.append_assoc];rfl
theorem qe{z:Int}(h1: -9223372036854775808≤z)(h2:z≤9223372036854775807):zh z=NH z:=by
 have hp:(10:Nat)^20=100000000000000000000:=by decide
 cases z with
 |ofNat u=>
  have h2:(u:Int)≤9223372036854775807:=h2;show Cp 20 u []=(Lib.itoa (u:Int)).map UInt8.toNat;rw[Co 19 u [] (by rw[hp];omega),List.append_nil,Lib.itoa,if_neg Qe];rfl
 |negSucc u=>
  have h1: -9223372036854775808≤Int.negSucc u:=h1;show 45::Cp 20 (u+1) []=(Lib.itoa (Int.negSucc u)).map UInt8.toNat;rw[Co 19 (u+1) [] (by rw[hp];omega),List.append_nil,Lib.itoa,if_pos Qe];rfl
def wz(z:Int):Bool:=decide (-9223372036854775808≤z)&&decide (z≤9223372036854775807)
theorem DM{z:Int}:wz z=true↔ -9223372036854775808≤z∧z≤9223372036854775807:=by unfold wz;rw[Bool.and_eq_true,decide_eq_true_eq,decide_eq_true_eq]
theorem I7: ∀{l:List Int},l.all wz=true→yj l=Yq l
 |[],_=>rfl
 |z::l,h=>by
  rw[List.all_cons,Bool.and_eq_true]at h;have:=DM.1 h.1;rw[yj,Yq,qe this.1 this.2,I7 h.2]

def Wq(w:World):Prop:=Lib.TabIs Tryz.prog w "internal/strconv.uint64pow10" .u64 Lib.pow10Tab
theorem Wq.below{w w':World}(h:Wq w)(hb:Below w.heap.size w w'):Wq w':=Lib.tabBelow_of_tabIs h w' hb

noncomputable def IS:List AV→St→Option (AV×St)
 |[.nils],st=>some (.str [],st)
 |[.sl c m 0 len 1],st=>match st.h.get c with
  |some (.row false ms)=>match ms[m]? with
   |some (e,vs,some l)=>match Zv (l.take len)with
    |some zs=>if zs.length=len∧len≤1000000∧zs.all wz=true then some (.str (yj zs),st)else none
    |none=>none
   |_=>none
  |_=>none
 |_,_=>none
theorem NF(zs:List Int):(⟨(VX zs).toArray⟩:ByteArray)=bytesOf (Yq zs):=by
 unfold bytesOf;rw[←qb,List.map_map]
 have:(UInt8.ofNat∘UInt8.toNat)=id:=by funext x;simp
 rw[this,List.map_id]
theorem yh{G:Env}(hI: ∀w0 w,G.i w0→Below w0.heap.size w0 w→Wq w):HT Tryz.prog G 300 IS:=by
 intro args st v st' hs hf ha;have hr:Real Tryz.prog 300:=⟨_,Tryz.func300,rfl,by decide⟩;unfold IS at hs
 split at hs
 ·injection hs with hs
  injection hs with e1 e2
  subst e1 e2;refine⟨hr,fun w0 p w H hG=>⟨Ab.refl _,?_⟩⟩;have h:=Ra none 0 0 0 [] w Qx (fun j hj=>absurd hj Qx) (fun h=>absurd h Qx) Qx (hI w0 w hG.2 H.under);refine h.mono fun e w' he=>?_;obtain⟨rfl,hb⟩:=he;exact⟨p,by rw[NF];rfl,H.E7 hb,fun x hx=>by cases hx⟩
 ·rename_i c m len
  split at hs
  ·rename_i ms hc
   split at hs
   ·rename_i e vs l hm
    split at hs
    ·rename_i zs hzs
     split at hs
     ·rename_i hcond;obtain⟨hlen,h1M,hall⟩:=hcond
      injection hs with hs
      injection hs with e1 e2
      subst e1 e2;have hbz: ∀z∈zs,-9223372036854775808≤z∧z≤9223372036854775807:=fun z hz=>DM.1 (List.all_eq_true.1 hall z hz);refine⟨hr,fun w0 p w H hG=>⟨Ab.refl _,?_⟩⟩;have hR:=H.cls c _ hc;obtain⟨q,arr,el,g1,g2,g3,g4,g5,g6⟩:=hR.mem m e vs (some l) hm;obtain⟨k1,k2⟩:=g6 l rfl;have hb:=g2.own;have hblt:=(Array.getElem?_eq_some_iff.1 hb).1;have hzl:l.take len=zs.map A8:=NI hzs
      have hH:Holds (Value.int .i64) w q.b q.d zs.toArray:=by
       intro j hj
       have hj':j<zs.length:=by simpa using hj
       refine⟨?_,by simp[World.frozen?,hb]⟩
       have ha1:l[j]? =some (A8 zs[j]):=by
        have h:=congrArg (fun x=>x[j]?) hzl;simp only[List.getElem?_map,List.getElem?_eq_getElem hj']at h;rw[List.getElem?_take_of_lt Qe]at h;exact h
       obtain⟨j1,_,_⟩:=k2 j _ ha1;simp only[World.cell?,hb];simp only[Option.isSome_none,Bool.false_eq_true,if_false];rw[j1];simp[hj',A8,Qd]
      have hargs:(Qm p [AV.sl c m 0 len 1]).toArray= #[.slice (some ⟨q.b,q.d,none⟩) zs.length q.e]:=by
       show #[Qd p (AV.sl c m 0 len 1)]=_;simp only[Qd,g1];rw[hlen];simp
      rw[hargs];refine(Ra (some ⟨q.b,q.d,none⟩) q.b q.d q.e zs w hbz hH (fun _=>⟨rfl,hblt⟩) Qe (hI w0 w hG.2 H.under)).mono fun e' w' he=>?_;obtain⟨rfl,hb'⟩:=he;refine⟨p,?_,H.E7 hb',?_⟩
      ·rw[NF,←I7 hall];rfl
      ·rw[I7 hall];exact KC zs
     ·cases hs
    ·cases hs
   ·cases hs
  ·cases hs
 ·cases hs
theorem GQ{P:Program}{G G':Env}(hG0: ∀g,G.g g=false)(hE:ER P G)(hI: ∀w0 w,G'.i w0→Below w0.heap.size w0 w→G.i w)(hm:P.follows .mixedOrders=true){f:FuncId}{L fuel n:Nat}(h:isTrue (Jx P G L fuel f [] ⟨n,.nil⟩)=true):HT P G' f Iv:=by
 intro args st v st' hs hf ha
 cases args with
 |cons a l=>cases hs
 |nil=>
  injection hs with hs
  injection hs with e1 e2
  subst e1 e2
  obtain⟨⟨u,st2⟩,h1⟩: ∃r,Jx P G L fuel f [] ⟨n,.nil⟩=some r:=by
   cases hr:Jx P G L fuel f [] ⟨n,.nil⟩with
   |none=>rw[hr]at h;cases h
   |some r=>exact⟨r,rfl⟩
  refine⟨(IB (IA hm) hE L fuel f [] _ _ _ h1 (fun _ _=>rfl) trivial).1,fun w0 p w H hG=>⟨Ab.refl _,?_⟩⟩;refine(Cw hG0 hE hm (args:=[]) (by simp[Yt]) h w (hI w0 w hG.2 H.under)).mono fun e w' he=>?_;obtain⟨rfl,hb⟩:=he;exact⟨p,rfl,H.E7 hb,trivial⟩

noncomputable section
end
end
end Go.Proofs.YtildagdnomiahaaGreatDoor
