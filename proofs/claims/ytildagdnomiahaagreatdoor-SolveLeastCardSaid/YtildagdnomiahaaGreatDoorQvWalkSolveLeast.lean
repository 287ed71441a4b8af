/-
  slices.Sort and slices.Compact at texts, by the library's contracts: the numbers of this program put in.
-/
import Derived.Shelf.Sort.Plain
import Derived.Shelf.Slices.CompactS
import Derived.Shelf.Slices.In.SortNone
import Derived.Test.YtildagdnomiahaaGreatDoorQvFnV
set_option maxRecDepth 1000000
set_option linter.unnecessarySimpa false
set_option linter.unusedSimpArgs false
set_option linter.unusedVariables false
namespace Go.Proofs.YtildagdnomiahaaGreatDoor
section
open Go Go.RowKit Go.Shelf

def lr:Ren:=⟨
 fun n=>if n=125 then 292 else if n=128 then 319 else if n=129 then 219 else if n=190 then 336 else if n=258 then 345 else if n=302 then 347 else if n=303 then 348 else if n=304 then 349 else if n=305 then 350 else if n=306 then 351 else if n=307 then 352 else if n=308 then 353 else if n=309 then 354 else if n=310 then 355 else if n=329 then 330 else if n=330 then 331 else if n=333 then 356 else if n=334 then 357 else if n=335 then 358 else if n=336 then 359 else if n=344 then 360 else if n=194 then 337 else 0,
 fun n=>if n=0 then 0 else if n=3 then 3 else if n=4 then 4 else if n=5 then 5 else if n=9 then 9 else if n=31 then 47 else if n=46 then 259 else if n=51 then 266 else if n=53 then 209 else if n=131 then 247 else if n=182 then 341 else if n=183 then 342 else if n=218 then 358 else if n=222 then 362 else if n=228 then 369 else if n=229 then 137 else 0,
 fun _=>0⟩

set_option maxRecDepth 100000 in
theorem SH:Lays.n194 Tryz.prog lr:={
 mixed:=by kernel_rfl
 f194:=by kernel_rfl
 t0:=by kernel_rfl
 a0:=fun _=>by kernel_rfl
 z0:=fun _=>by kernel_rfl
 v0:=fun _=>by kernel_rfl
 t3:=by kernel_rfl
 a3:=fun _=>by kernel_rfl
 z3:=fun _=>by kernel_rfl
 v3:=fun _=>by kernel_rfl
 t4:=by kernel_rfl
 a4:=fun _=>by kernel_rfl
 z4:=fun _=>by kernel_rfl
 v4:=fun _=>by kernel_rfl
 t9:=by kernel_rfl
 a9:=fun _=>by kernel_rfl
 z9:=fun _=>by kernel_rfl
 v9:=fun _=>by kernel_rfl
 t31:=by kernel_rfl
 a31:=fun _=>by kernel_rfl
 z31:=fun _=>by kernel_rfl
 v31:=fun _=>by kernel_rfl}
end
section
open Go Go.RowKit Go.Shelf Go.Sort

def Lh:List AV→Option (List (List UInt8))
 |[]=>some []
 |.str s::l=>(Lh l).map (s.map UInt8.ofNat:: ·)
 |_::_=>none
def fp(z:List UInt8):AV:=.str (z.map UInt8.toNat)
theorem zh(p:QY)(z:List UInt8):Qe p (fp z)=encStr z:=by
 show Value.string (bytesOf (z.map UInt8.toNat))=_;unfold bytesOf;rw[List.map_map]
 have:(UInt8.ofNat∘UInt8.toNat)=id:=by funext x;simp
 rw[this,List.map_id]
theorem PE{l:List AV}{zs:List (List UInt8)}(h:Lh l=some zs):zs.length=l.length∧ ∀(p:QY) (j:Nat) (z:List UInt8),zs[j]? =some z→ ∃a,l[j]? =some a∧Qe p a=encStr z:=by
 induction l generalizing zs with
 |nil=>injection h with h;subst h;exact⟨rfl,fun p j z hj=>by simp at hj⟩
 |cons a l ih=>
  cases a<;>simp only[Lh]at h<;>first|(cases h;done)|skip
  rename_i s
  cases hl:Lh l with
  |none=>rw[hl]at h;cases h
  |some zl=>
   rw[hl]at h
   injection h with h
   subst h;obtain⟨h1,h2⟩:=ih hl;refine⟨by simp[h1],fun p j z hj=>?_⟩
   cases j with
   |zero=>
    injection hj with hj
    subst hj;exact⟨_,rfl,rfl⟩
   |succ j=>exact h2 p j z hj
def BB(ms:List (Nat×Nat×Option (List AV))):List (Nat×Nat×Option (List AV)):=ms.map fun x=>(x.1,x.2.1,none)
def We(ms:List (Nat×Nat×Option (List AV)))(m e vs:Nat)(l:List AV):List (Nat×Nat×Option (List AV)):=(BB ms).set m (e,vs,some l)
theorem Mj{ms:List (Nat×Nat×Option (List AV))}{m e vs:Nat}{l:List AV}{cs0:Option (List AV)}(h:ms[m]? =some (e,vs,cs0)):Told ms (We ms m e vs l)∧(We ms m e vs l)[m]? =some (e,vs,some l)∧ ∀k e' vs' l',(We ms m e vs l)[k]? =some (e',vs',some l')→k=m∧e'=e∧l'=l:=by
 have hlt:=(List.getElem?_eq_some_iff.1 h).1
 have hself:(We ms m e vs l)[m]? =some (e,vs,some l):=by
  unfold We;rw[List.getElem?_set_self (by simp[BB,hlt])]
 have hoth: ∀k,k≠m→(We ms m e vs l)[k]? =(ms[k]?).map fun x=>(x.1,x.2.1,none):=fun k hk=>by
  unfold We;rw[List.getElem?_set_ne (fun e=>hk e.symm),BB,List.getElem?_map]
 refine⟨⟨by simp[We,BB],fun k e' vs' cs hk=>?_⟩,hself,fun k e' vs' l' hk=>?_⟩
 ·by_cases hkm:k=m
  ·subst hkm;rw[hself]at hk
   injection hk with hk;injection hk with h1 hk;injection hk with h2 hk
   subst h1 h2;exact⟨_,h⟩
  ·rw[hoth k hkm]at hk
   cases hmk:ms[k]? with
   |none=>rw[hmk]at hk;cases hk
   |some x=>
    rw[hmk]at hk;obtain⟨a,b,c⟩:=x
    injection hk with hk;injection hk with h1 hk;injection hk with h2 hk
    subst h1 h2;exact⟨_,rfl⟩
 ·by_cases hkm:k=m
  ·subst hkm;rw[hself]at hk
   injection hk with hk;injection hk with h1 hk;injection hk with h2 hk;injection hk with hk
   exact⟨rfl,h1.symm,hk.symm⟩
  ·rw[hoth k hkm]at hk
   cases hmk:ms[k]? with
   |none=>rw[hmk]at hk;cases hk
   |some x=>
    rw[hmk]at hk
    injection hk with hk;injection hk with h1 hk;injection hk with h2 hk
    cases hk
noncomputable def HV(F:List (List UInt8)→List (List UInt8))(V:Nat→Nat→List (List UInt8)→AV)(V0:AV→AV):List AV→St→Option (AV×St)
 |[.sl c m 0 len 1],st=>if len=0 then some (V0 (.sl c m 0 0 1),st)else match st.h.get c with
  |some (.row false ms)=>match ms[m]? with
   |some (e,vs,some l)=>if l.length=len∧0<len∧len≤1000000 then match Lh l with
     |some zs=>some (V c m zs,⟨st.n,st.h.set c (.row false (We ms m e vs ((F zs).map fp)))⟩)
     |none=>none
    else none
   |_=>none
  |_=>none
 |[.nils],st=>some (V0 .nils,st)
 |_,_=>none
theorem TG{P:Program}{G:Env}{f:FuncId}{F:List (List UInt8)→List (List UInt8)}{V:Nat→Nat→List (List UInt8)→AV}{V0:AV→AV}{R:Option Addr→Nat→List (List UInt8)→Value}{R0:Value→Value}(hr:Real P f)(hF: ∀zs,(F zs).length=zs.length)
  (hV: ∀(p:QY) (h:Hp) c m zs q C e,zs≠[]→p c m=some q→h c=some C→(exts C)[m]? =some e→zs.length≤e→Qe p (V c m zs)=R (some ⟨q.b,q.d,none⟩) q.e zs∧WF h (V c m zs)) (hV0: ∀(p:QY) (h:Hp) (ks:AV),WF h ks→Qe p (V0 ks)=R0 (Qe p ks)∧WF h (V0 ks))
  (hC: ∀(b o cap:Nat) (zs:List (List UInt8)) (w:World),Holds encStr w b o zs.toArray→b<w.heap.size→zs.length≤1000000→zs.length≤cap→zs≠[]→Calls P f #[.slice (some ⟨b,o,none⟩) zs.length cap] w fun e w'=>e=.returned (R (some ⟨b,o,none⟩) cap zs)∧ ∃n os,w'=grow (putRow encStr (Sort.ahead w n) b o (F zs).toArray) os)
  (hC0: ∀(a:Option Addr) (cap:Nat) (w:World),Calls P f #[.slice a 0 cap] w fun e w'=>e=.returned (R0 (.slice a 0 cap))∧w'=w):W2 P G f (HV F V V0):=by
 intro args st v st' hs hf ha;unfold HV at hs
 split at hs
 ·rename_i c m len
  by_cases hl0:len=0
  ·rw[if_pos hl0]at hs
   injection hs with hs
   injection hs with e1 e2
   subst e1 e2 hl0;have hw:WF st.h.get (.sl c m 0 0 1):=ha.1;refine⟨hr,fun w0 p w H hG=>⟨Ab.refl _,?_⟩⟩;obtain⟨C,e,g1,g2,_,_⟩:=hw;obtain⟨q,hq⟩:=H.Ws c C g1 m (List.getElem?_eq_some_iff.1 g2).1
   have hcs:Qe p (.sl c m 0 0 1)=.slice (some ⟨q.b,q.d+0,none⟩) 0 ((q.e-0)/1):=by simp only[Qe,hq]
   have hv:=hV0 p st.h.get (.sl c m 0 0 1) ha.1;show Calls P f #[Qe p (.sl c m 0 0 1)] w _;rw[hcs]at hv ⊢;refine(hC0 _ _ w).mono fun e w'=>?_
   rintro⟨rfl,rfl⟩
   exact⟨p,by rw[hv.1],.refl H,hv.2⟩
  rw[if_neg hl0]at hs
  split at hs
  ·rename_i ms hc
   split at hs
   ·rename_i e vs l hm
    split at hs
    ·rename_i hcond;obtain⟨hlen,h0,h1M⟩:=hcond
     split at hs
     ·rename_i zs hzs
      injection hs with hs
      injection hs with e1 e2
      subst e1 e2;obtain⟨hzl,hzg⟩:=PE hzs
      have hzn:zs≠[]:=by intro e;subst e;simp at hzl;omega
      obtain⟨hT,hself,honly⟩:=Mj (l:=(F zs).map fp) hm;have hexts:exts (.row false (We ms m e vs ((F zs).map fp)))=exts (.row false ms):=hT.exts;have hAb:Ab st ⟨st.n,st.h.set c (.row false (We ms m e vs ((F zs).map fp)))⟩:=F6 hc (by rw[hexts];exact List.prefix_refl _);refine⟨hr,fun w0 p w H hG=>⟨hAb,?_⟩⟩;have hR:=H.cls c _ hc;obtain⟨q,arr,el,g1,g2,g3,g4,g5,g6⟩:=hR.mem m e vs (some l) hm;obtain⟨k1,k2⟩:=g6 l rfl;have hb:=g2.own;have hblt:=(Array.getElem?_eq_some_iff.1 hb).1
      have hH:Holds encStr w q.b q.d zs.toArray:=by
       intro j hj
       have hj':j<zs.length:=by simpa using hj
       refine⟨?_,by simp[World.frozen?,hb]⟩;obtain⟨a,ha1,ha2⟩:=hzg p j _ (List.getElem?_eq_getElem hj');obtain⟨j1,_,_⟩:=k2 j a ha1;simp only[World.cell?,hb];simp only[Option.isSome_none,Bool.false_eq_true,if_false];rw[j1,ha2];simp[hj']
      have hargs:(Qm p [AV.sl c m 0 len 1]).toArray= #[.slice (some ⟨q.b,q.d,none⟩) zs.length q.e]:=by
       show #[Qe p (AV.sl c m 0 len 1)]=_;simp only[Qe,g1];rw[hzl,hlen];simp
      rw[hargs];refine(hC q.b q.d q.e zs w hH hblt Qd Qd hzn).mono fun e' w'=>?_
      rintro⟨rfl,n,os,rfl⟩
      have hv:=hV p (st.h.set c (.row false (We ms m e vs ((F zs).map fp)))).get c m zs q (.row false (We ms m e vs ((F zs).map fp))) e hzn g1 (by rw[Jc];exact Jy _ _ _) (by rw[hexts];simp[exts,List.getElem?_map,hm]) Qd;refine⟨p,by rw[hv.1],?_,hv.2⟩
      have S1:=H.over hc hT hb (arr':=putCells encStr q.d (F zs).toArray arr) (by simp[putCells]) g1 rfl (fun k e1 vs1 l1 q1 hk hq1=>by
       obtain⟨rfl,rfl,rfl⟩:=honly k e1 vs1 l1 hk
       rw[g1]at hq1;injection hq1 with hq1;subst hq1
       refine⟨fun _=>⟨by rw[List.length_map,hF];omega,fun j a hj=>?_⟩,fun hne=>absurd rfl hne⟩;rw[List.getElem?_map]at hj
       cases hz:(F zs)[j]? with
       |none=>rw[hz]at hj;cases hj
       |some z=>
        rw[hz]at hj
        injection hj with hj
        subst hj;have hjl:=(List.getElem?_eq_some_iff.1 hz).1
        have hjl':j<zs.length:=by rw[←hF];exact hjl
        refine⟨?_,?_,rfl⟩
        ·rw[zh]
         have:q.d+j<arr.size:=by omega
         have hzj:=(List.getElem?_eq_some_iff.1 hz).2;simp[putCells,this,hjl,hzj]
        ·intro x hx;obtain⟨u,_,rfl⟩:=List.mem_map.1 hx
         exact u.toNat_lt)
      rw[Jc]
      have hset: ∀k,(putRow encStr (Sort.ahead w n) q.b q.d (F zs).toArray).heap[k]? =(w.setRow q.b (putCells encStr q.d (F zs).toArray arr)).heap[k]? :=fun k=>by
       by_cases hk:k=q.b
       ·subst hk;rw[setRow_heap w q.b arr _ el (0,0) hb];show(w.heap.modify q.b (onCells (putCells encStr q.d (F zs).toArray)))[q.b]? =_;rw[Array.getElem?_modify,if_pos rfl,hb];rfl
       ·rw[setRow_other w q.b k _ hk];show(w.heap.modify q.b (onCells (putCells encStr q.d (F zs).toArray)))[k]? =_;rw[Array.getElem?_modify,if_neg (fun e:q.b=k=>hk e.symm)]
      refine S1.trans (S1.hr.Wv ⟨rfl,rfl,rfl,?_,fun k hk=>?_⟩)
      ·simp[World.setRow,putRow,mapBlock,Sort.ahead,grow]
      ·rw[heap_grow_old _ _ (by simpa [World.setRow,putRow,mapBlock,Sort.ahead]using hk),hset]
     ·cases hs
    ·cases hs
   ·cases hs
  ·cases hs
 ·injection hs with hs
  injection hs with e1 e2
  subst e1 e2;refine⟨hr,fun w0 p w H hG=>⟨Ab.refl _,(hC0 none 0 w).mono fun e w'=>?_⟩⟩
  rintro⟨rfl,rfl⟩
  exact⟨p,by rw[(hV0 p st.h.get .nils trivial).1];rfl,.refl H,(hV0 p st.h.get .nils trivial).2⟩
 ·cases hs
def DY(zs:List (List UInt8)):List (List UInt8):=Lib.compact zs++List.replicate (zs.length-(Lib.compact zs).length) []
def Gp(c m:Nat)(zs:List (List UInt8)):AV:=.sl c m 0 (Lib.compact zs).length 1
theorem Ny(zs:List (List UInt8)):(Lib.compact zs).length≤zs.length:=by
 unfold Lib.compact Lib.compactUpTo;rw[List.length_map];refine Nat.le_trans (List.length_filter_le _ _) ?_;simp
theorem DX{G:Env}:W2 Tryz.prog G 337 (HV DY Gp id):=by
 refine TG (R:=fun a cap zs=>.slice a (Lib.compact zs).length cap) (R0:=id) ⟨_,Tryz.func337,rfl,by decide⟩ (fun zs=>?_) (fun p h c m zs q C e hn h1 h2 h3 h4=>?_) (fun p h ks hw=>⟨rfl,hw⟩) (fun b o cap zs w hH hb hsz hcap hn=>?_) (fun a cap w=>?_)
 ·have:=Ny zs;simp[DY];omega
 ·have:=Ny zs;refine⟨?_,?_⟩
  ·unfold Gp;simp only[Qe,h1];simp
  ·unfold Gp;exact⟨C,e,h2,h3,by decide,by omega⟩
 ·refine(Any.slices_Compact_string SH b o cap zs w hH Qd hcap).mono fun e w'=>?_
  rintro⟨rfl,n,rfl⟩
  exact⟨rfl,n,#[],by rw[grow_empty];rfl⟩
 ·exact Any.slices_Compact_string_empty SH a cap w
end
section
open Go

noncomputable def lJ(tbl:List Ce):Env:=⟨fun _=>false,Gg Gu,Hr ((16,Ah)::(337,HV DY Gp id)::(38,OG 49 tbl)::IC),W0⟩
theorem Du(tbl:List Ce):W2 Tryz.prog (lJ tbl) 16 Ah:=C5 (fun _=>rfl) (vC zX) (fun w0 w h hb=>W0.below h hb) mixed Bw
end
section
open Go Go.RowKit

inductive G2:List (List Int)→List AV→ZJ→Prop
 |nil:G2 [] [] []
 |cons {l:List Int} {k:AV} {A:ZJ} {ls:List (List Int)} {ks:List AV} {B:ZJ} (hA:Acc 0 1 A k (zC l)) (hS:W3 k l) (h:G2 ls ks B):G2 (l::ls) (k::ks) (A++B)
theorem G2.names{sets:List (List Int)}{ks:List AV}{B:ZJ}(h:G2 sets ks B): ∃xs:List (Nat×Nat),xs.length=(Zq sets).length∧ks=Zp xs sets∧(∀(i:Nat) (x:Nat×Nat) (r:List AV),xs[i]? =some x→(Zq sets)[i]? =some r→(x.1,x.2,r)∈B)∧(xs.map Prod.fst).Sublist (B.map Prod.fst):=by
 induction h with
 |nil=>exact⟨[],rfl,rfl,fun i x r h=>by simp at h,.slnil⟩
 | @cons l k A ls ks B hA hS h ih=>
  obtain⟨xs,h1,h2,h3,h4⟩:=ih
  cases l with
  |nil=>
   have hk:=hS rfl;subst hk;refine⟨xs,h1,?_,fun i x r hx hr=>List.mem_append_right _ (h3 i x r hx hr),?_⟩
   ·rw[h2];cases xs<;>rfl
   ·rw[List.map_append];exact h4.trans (List.sublist_append_right _ _)
  |cons z l=>
   generalize hg:zC (z::l)=lz at hA
   cases hA with
   |none=>simp[zC]at hg
   |own hc hz hb=>
    rename_i c m;subst hg;refine⟨(c,m)::xs,by simp[Zq,h1],?_,fun i x r hx hr=>?_,?_⟩
    ·rw[Zp,h2,Qy];rfl
    ·cases i with
     |zero=>
      injection hx with hx
      injection hr with hr
      subst hx hr;refine List.mem_append_left _ (List.mem_singleton.2 ?_);rw[EY];rfl
     |succ i=>exact List.mem_append_right _ (h3 i x r hx hr)
    ·rw[List.map_append,List.map_cons,List.map_cons,List.map_nil];exact h4.cons_cons c
theorem iM{T:TypeId}{st st':St}{ds:List NM}{sets:List (List Int)}{kl:AV}{ks:List AV}{B Al:ZJ}{ls:List (List AV)}(hS:G2 sets ks B)(hg:qm st.n st' (B++Al))(hA:Acc 0 3 Al kl ls)(hls:ls.flatten=VR ds ks)(hln:ls.length=ds.length)(h0:0<ds.length):
  ∃xs y,xs.length=(Zq sets).length∧AV.ifc T kl=.ifc T (.sl y.1 y.2 0 ds.length 3)∧(∀(i:Nat) (x:Nat×Nat) (r:List AV),(xs++[y])[i]? =some x→(Vv xs ds sets)[i]? =some r→st.n≤x.1∧Qu st'.h.get x.1 x.2 r)∧((xs++[y]).map Prod.fst).Nodup:=by
 obtain⟨xs,h1,rfl,h3,h4⟩:=hS.names
 cases hA with
 |none=>simp at hln;omega
 |own hc hz hb=>
  rename_i c m;refine⟨xs,(c,m),h1,by rw[hln],fun i x r hx hr=>?_,?_⟩
  ·have hmem:(x.1,x.2,r)∈B++[(c,m,ls.flatten)]:=by
    by_cases hi:i<xs.length
    ·rw[List.getElem?_append_left hi]at hx;rw[Vv,List.getElem?_append_left Qd]at hr;exact List.mem_append_left _ (h3 i x r hx hr)
    ·have hil:=(List.getElem?_eq_some_iff.1 hx).1;rw[List.length_append,List.length_singleton]at hil
     have e:i=xs.length:=by omega
     subst e;rw[List.getElem?_append_right (Nat.le_refl _),Nat.sub_self]at hx;rw[Vv,List.getElem?_append_right Qd,h1,Nat.sub_self]at hr
     injection hx with hx
     injection hr with hr
     subst hx hr;rw[hls];exact List.mem_append_right _ (List.mem_singleton.2 rfl)
   exact⟨hg.own _ _ _ hmem,hg.row _ _ _ hmem⟩
  ·have:=hg.nodup;rw[List.map_append]at this ⊢;exact this.sublist (h4.append (List.Sublist.refl _))
noncomputable def RD(tbl:List O7):Env:=⟨fun _=>false,Gg Gu,Hr ((16,Ah)::(337,HV DY Gp id)::(38,C6 49 tbl)::IC),W0⟩
theorem Rz{tbl:List O7}(ht: ∀e∈tbl,e.ok=true)(hd: ∀e∈tbl,e.ds.length=1∨e.ds.length=2):W2 Tryz.prog (RD tbl) 38 (C6 49 tbl):=
 qV (G0:=DM) LW (fun w0 p h=>h) Hy mixed ht fun e m w st R kv cs mp n h1 h2 h3 h4 h5 h6 h7 h8 h9 hf hR hr hRm hV hko hm hl hs he=>by
  have hde:=hd e he;obtain⟨ds,⟨o,a,b,g,k,l⟩,sets,s⟩:=e
  match ds,hde with
  |[(n0,o0,a0)],_=>
   obtain⟨v,st',q1,q2,q3,kl,k0,A0,Al,rfl,hSg,hA0,hS0,hAl⟩:=R4 (nm0:=n0) (or0:=o0) (YG:=a0) hf hR hr hRm hm hl hV hko h1 hs h6 h7 h8 h9 h2 h4 h5;refine⟨_,st',q1,q2,q3,?_⟩;have h3:sets=[UK w 0 w.length]:=h3;subst h3;exact iM (.cons hA0 hS0 .nil) (by rw[List.append_nil];exact hSg) hAl rfl rfl Qx
  |[(n0,o0,a0),(n1,o1,a1)],_=>
   obtain⟨v,st',q1,q2,q3,kl,k0,k1,A0,A1,Al,rfl,hSg,hA0,hS0,hA1,hS1,hAl⟩:=R3 (nm0:=n0) (or0:=o0) (YG:=a0) (nm1:=n1) (or1:=o1) (at1:=a1) hf hR hr hRm hm hl hV hko h1 hs h6 h7 h8 h9 h2 h4 h5;refine⟨_,st',q1,q2,q3,?_⟩;have h3:sets=[UK w 0 w.length,UK w 1 w.length]:=h3;subst h3;exact iM (.cons hA0 hS0 (.cons hA1 hS1 .nil)) (by rw[List.append_nil];exact hSg) hAl rfl rfl Qx
theorem vB{tbl:List O7}(ht: ∀e∈tbl,e.ok=true)(hd: ∀e∈tbl,e.ds.length=1∨e.ds.length=2):Ea Tryz.prog (RD tbl):=⟨fun f q h=>N8 (f,q) (Ir h),fun f sm h=>by
 have h:Qj (Nat.beq f 16) (some Ah) (Qj (Nat.beq f 337) (some (HV DY Gp id)) (Qj (Nat.beq f 38) (some (C6 49 tbl)) (Hr IC f)))=some sm:=h
 cases hb:Nat.beq f 16 with
 |true=>
  rw[hb]at h
  injection h with h
  subst h;rw[Nat.eq_of_beq_eq_true hb];exact Du []
 |false=>
  rw[hb,Qq]at h
  cases hb2:Nat.beq f 337 with
  |true=>
   rw[hb2]at h
   injection h with h
   subst h;rw[Nat.eq_of_beq_eq_true hb2];exact DX
  |false=>
   rw[hb2,Qq]at h
   cases hb3:Nat.beq f 38 with
   |true=>
    rw[hb3]at h
    injection h with h
    subst h;rw[Nat.eq_of_beq_eq_true hb3];exact Rz ht hd
   |false=>
    rw[hb3]at h
    exact Hy.sums f sm h⟩
end
section
open Go

def yG:Cr:=.mk [101,120] 1 0 0 0 [.mk [97,110,100] 0 0 0 0 [.mk [110,117,109] 1 0 0 2 [],.mk [108,101,115,115] 1 0 0 0 []]]
def qR:List O7:=[⟨[([120],1,5)],yG,[[3]],34⟩,⟨[([120],1,5)],jV yG,[[0]],39⟩]
theorem qP: ∀e∈qR,e.ok=true:=by decide+kernel
theorem qQ: ∀e∈qR,e.ds.length=1∨e.ds.length=2:=by decide
theorem GQ:AU Tryz.prog (RD qR) 10000 1000 6 [.int .i64 0] ⟨0,.nil⟩ HS=true:=by decide+kernel
end
section
open Go

def yE:Cr:=.mk [97,110,100] 0 0 0 0 [.mk [97,110,100] 0 0 0 0 [.mk [101,120] 1 0 0 0 [.mk [97,110,100] 0 0 0 0 [.mk [110,111,110,101] 1 0 0 0 [],.mk [110,111,116] 0 0 0 0 [.mk [97,110,100] 0 0 0 0 [.mk [115,117,98] 0 1 0 0 [],.mk [115,117,98] 1 0 0 0 []]]]],.mk [101,120] 1 0 0 0 [.mk [97,110,100] 0 0 0 0 [.mk [110,117,109] 1 0 0 1 [],.mk [110,111,116] 0 0 0 0 [.mk [115,117,98] 1 0 0 0 []]]]],.mk [110,111,116] 0 0 0 0 [.mk [101,120] 1 0 0 0 [.mk [97,110,100] 0 0 0 0 [.mk [115,105,110,103] 1 0 0 0 [],.mk [110,111,116] 0 0 0 0 [.mk [110,111,116] 0 0 0 0 [.mk [97,110,100] 0 0 0 0 [.mk [115,117,98] 1 0 0 0 [],.mk [110,111,116] 0 0 0 0 [.mk [101,120] 2 0 0 0 [.mk [97,110,100] 0 0 0 0 [.mk [110,117,109] 2 0 0 0 [],.mk [108,101,115,115] 2 1 0 0 []]]]]]]]]]]
def qO:List O7:=[⟨[([88],2,5)],yE,[[2]],96⟩,⟨[([88],2,5)],jV yE,[[]],101⟩]
theorem qM: ∀e∈qO,e.ok=true:=by decide+kernel
theorem qN: ∀e∈qO,e.ds.length=1∨e.ds.length=2:=by decide
theorem GP:AU Tryz.prog (RD qO) 10000 1000 6 [.int .i64 1] ⟨0,.nil⟩ HS=true:=by decide+kernel
end
section
open Go

def yD:Cr:=.mk [97,110,100] 0 0 0 0 [.mk [102,108,97,103] 0 0 0 0 [],.mk [101,120] 2 0 0 0 [.mk [97,110,100] 0 0 0 0 [.mk [110,117,109] 2 0 0 1 [],.mk [97,110,100] 0 0 0 0 [.mk [115,117,98] 1 2 0 0 [],.mk [115,117,98] 2 1 0 0 []]]]]
def qL:List O7:=[⟨[([112],0,5),([120],1,13)],yD,[[0],[1]],51⟩,⟨[([112],0,5),([120],1,13)],jV yD,[[],[0]],56⟩]
theorem qJ: ∀e∈qL,e.ok=true:=by decide+kernel
theorem qK: ∀e∈qL,e.ds.length=1∨e.ds.length=2:=by decide
theorem GO:AU Tryz.prog (RD qL) 10000 1000 6 [.int .i64 2] ⟨0,.nil⟩ HS=true:=by decide+kernel
end
section
open Go

def yC:Cr:=.mk [108,101,115,115] 0 1 0 0 []
def qI:List O7:=[⟨[([120],1,5),([121],1,8)],yC,[[0],[1]],23⟩,⟨[([120],1,5),([121],1,8)],jV yC,[[0],[0]],27⟩]
theorem qG: ∀e∈qI,e.ok=true:=by decide+kernel
theorem qH: ∀e∈qI,e.ds.length=1∨e.ds.length=2:=by decide
theorem GN:AU Tryz.prog (RD qI) 10000 1000 6 [.int .i64 3] ⟨0,.nil⟩ HS=true:=by decide+kernel
end
section
open Go Go.RowKit
set_option maxHeartbeats 8000000

theorem Lq{st:St}(hf:Qh st)(way:Int)(hw:way<0∨4≤way): ∃v st',QV 6 [iZ way] st v st'∧v=.bool true:=by
 refine Jv Tryz.func6 Tryz.ntmps6 fun T K=>?_;have M:=Mem.start hf;refine au 2 K M ?_;intro c7 _ _ K _ M;replace M:Mem st.h.get st.n [] _ [(c7,0,[.str [118,97,114,49,32,120,59,32,50,32,60,32,120,59],.str [118,97,114,50,32,88,59,32,88,32,126,61,32,123,125,32,38,32,49,32,110,111,116,105,110,32,88,32,38,32,40,97,108,108,49,32,121,58,32,121,32,105,110,32,88,32,61,62,32,48,32,60,32,121,41,59],.str [118,97,114,48,32,112,59,32,118,97,114,49,32,120,59,32,112,32,38,32,120,32,61,32,49,59],.str [118,97,114,49,32,120,44,32,121,59,32,120,32,60,32,121,59]])]:=M;refine au 2 K M ?_;intro c8 _ _ K _ M;replace M:Mem st.h.get st.n [] _ [(c8,0,[.str [120,51],.str [88,50],.str [112,48,120,49],.str [120,48,121,49]]),(c7,0,[.str [118,97,114,49,32,120,59,32,50,32,60,32,120,59],.str [118,97,114,50,32,88,59,32,88,32,126,61,32,123,125,32,38,32,49,32,110,111,116,105,110,32,88,32,38,32,40,97,108,108,49,32,121,58,32,121,32,105,110,32,88,32,61,62,32,48,32,60,32,121,41,59],.str [118,97,114,48,32,112,59,32,118,97,114,49,32,120,59,32,112,32,38,32,120,32,61,32,49,59],.str [118,97,114,49,32,120,44,32,121,59,32,120,32,60,32,121,59]])]:=M;refine au 2 K M ?_;intro c9 _ _ K _ M;replace M:Mem st.h.get st.n [] _ [(c9,0,[.str [120,48],.str [88],.str [112,120,48],.str [120,48,121,48]]),(c8,0,[.str [120,51],.str [88,50],.str [112,48,120,49],.str [120,48,121,49]]),(c7,0,[.str [118,97,114,49,32,120,59,32,50,32,60,32,120,59],.str [118,97,114,50,32,88,59,32,88,32,126,61,32,123,125,32,38,32,49,32,110,111,116,105,110,32,88,32,38,32,40,97,108,108,49,32,121,58,32,121,32,105,110,32,88,32,61,62,32,48,32,60,32,121,41,59],.str [118,97,114,48,32,112,59,32,118,97,114,49,32,120,59,32,112,32,38,32,120,32,61,32,49,59],.str [118,97,114,49,32,120,44,32,121,59,32,120,32,60,32,121,59]])]:=M;refine Qb 3 K M fun _ K=>?_;refine U5 K rfl (fun _ e12 K=>?_) fun _ e12 K=>?_
 ·refine Qb 5 K M fun _ K=>?_;refine U8 K rfl (fun h17=>?_) fun h17=>?_
  ·refine Qb 1 K M ?_;rfl
  refine Qb 0 K M fun _ K=>?_
  exfalso;first|(simp_all;done)|omega
 refine Qb 7 K M ?_;rfl
end
section
open Go Go.RowKit

theorem Ls: ∀a:Nat,a<4→ ∃tbl:List O7,(∀e∈tbl,e.ok=true)∧(∀e∈tbl,e.ds.length=1∨e.ds.length=2)∧AU Tryz.prog (RD tbl) 10000 1000 6 [.int .i64 (a:Nat)] ⟨0,.nil⟩ HS=true
 |0,_=>⟨_,qP,qQ,GQ⟩
 |1,_=>⟨_,qM,qN,GP⟩
 |2,_=>⟨_,qJ,qK,GO⟩
 |3,_=>⟨_,qG,qH,GN⟩
 |a+4,h=>absurd h Qd
theorem Kc(m:Int)(w:World)(hm: -9223372036854775808≤m∧m≤9223372036854775807)(hT:W0 w):
  Calls Tryz.prog 6 #[.int .i64 m] w fun e w'=>e=.returned (.bool true)∧Below w.heap.size w w':=by
 by_cases h:0≤m∧m<4
 ·obtain⟨j,rfl⟩: ∃j:Nat,m=j:=⟨m.toNat,by omega⟩;obtain⟨tbl,h1,hd,h2⟩:=Ls j Qd;exact PD (fun _=>rfl) (vB h1 hd) mixed (by simp[YC,WF]) h2 w hT
 ·have:=Mc (G:=DM) (fun _=>rfl) Hy mixed (f:=6) (args:=[.int .i64 m]) (ml:=[]) G4.nil ⟨trivial,trivial⟩
   (Lq (OH []) m Qd) hT
  exact this
end
end Go.Proofs.YtildagdnomiahaaGreatDoor
