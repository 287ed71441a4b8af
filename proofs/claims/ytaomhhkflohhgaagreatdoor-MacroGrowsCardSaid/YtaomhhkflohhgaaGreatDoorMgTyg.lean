/-
  Calls that write one row of texts anew: a rule of the reckoner. slices.Sort, slices.Compact by it.
-/
import Derived.Test.YtaomhhkflohhgaaGreatDoorMgLayS
set_option maxRecDepth 100000
set_option linter.unusedVariables false
namespace Go.Proofs.YtaomhhkflohhgaaGreatDoor
section
open Go Go.RowKit Go.Shelf Go.Sort
variable {G:Env} {P:Program} {f:FuncId} {l:List AV} {st:St}

def E0:List AV→Option (List (List UInt8))
 |[]=>some []
 |.str s::l=>(E0 l).map (s.map UInt8.ofNat:: ·)
 |_::_=>none
def Pp(z:List UInt8):AV:=.str (z.map UInt8.toNat)
theorem yk(p:JY)(z:List UInt8):Qg p (Pp z)=encStr z:=by
 show Value.string (bytesOf (z.map UInt8.toNat))=_;unfold bytesOf;rw[List.map_map]
 have:(UInt8.ofNat∘UInt8.toNat)=id:=by funext x;simp
 rw[this,List.map_id]
theorem Nl{zs:List (List UInt8)}(h:E0 l=some zs):zs.length=l.length∧ ∀(p:JY) (j:Nat) (z:List UInt8),zs[j]? =some z→ ∃a,l[j]? =some a∧Qg p a=encStr z:=by
 induction l generalizing zs with
 |nil=>injection h with h;subst h;exact⟨rfl,fun p j z hj=>by simp at hj⟩
 |cons a l ih=>
  cases a<;>simp only[E0]at h<;>first|(cases h;done)|skip
  rename_i s
  cases hl:E0 l with
  |none=>rw[hl]at h;cases h
  |some zl=>
   rw[hl]at h
   injection h with h
   subst h;obtain⟨h1,h2⟩:=ih hl;refine⟨by simp[h1],fun p j z hj=>?_⟩
   cases j with
   |zero=>
    injection hj with hj
    subst hj;exact⟨_,rfl,rfl⟩
   |succ j=>exact h2 p j z hj
def Cj(ms:List (Nat×Nat×Option (List AV))):List (Nat×Nat×Option (List AV)):=ms.map fun x=>(x.1,x.2.1,none)
def WG(ms:List (Nat×Nat×Option (List AV)))(m e vs:Nat)(l:List AV):List (Nat×Nat×Option (List AV)):=(Cj ms).set m (e,vs,some l)
theorem GH{ms:List (Nat×Nat×Option (List AV))}{m e vs:Nat}{cs0:Option (List AV)}(h:ms[m]? =some (e,vs,cs0)):Told ms (WG ms m e vs l)∧(WG ms m e vs l)[m]? =some (e,vs,some l)∧ ∀k e' vs' l',(WG ms m e vs l)[k]? =some (e',vs',some l')→k=m∧e'=e∧l'=l:=by
 have hlt:=(List.getElem?_eq_some_iff.1 h).1
 have hself:(WG ms m e vs l)[m]? =some (e,vs,some l):=by
  unfold WG;rw[List.getElem?_set_self (by simp[Cj,hlt])]
 have hoth: ∀k,k≠m→(WG ms m e vs l)[k]? =(ms[k]?).map fun x=>(x.1,x.2.1,none):=fun k hk=>by
  unfold WG;rw[List.getElem?_set_ne (fun e=>hk e.symm),Cj,List.getElem?_map]
 refine⟨⟨by simp[WG,Cj],fun k e' vs' cs hk=>?_⟩,hself,fun k e' vs' l' hk=>?_⟩
 ·by_cases hkm:k=m
  ·subst hkm;rw[hself]at hk
   injection hk with hk;injection hk with h1 hk;injection hk with h2 hk
   subst h1 h2;exact⟨_,h⟩
  ·rw[hoth k hkm]at hk
   cases hmk:ms[k]? with
   |none=>rw[hmk]at hk;cases hk
   |some x=>
    rw[hmk]at hk;obtain⟨a,b,c⟩:=x
    injection hk with hk;injection hk with h1 hk;injection hk with h2 hk
    subst h1 h2;exact⟨_,rfl⟩
 ·by_cases hkm:k=m
  ·subst hkm;rw[hself]at hk
   injection hk with hk;injection hk with h1 hk;injection hk with h2 hk;injection hk with hk
   exact⟨rfl,h1.symm,hk.symm⟩
  ·rw[hoth k hkm]at hk
   cases hmk:ms[k]? with
   |none=>rw[hmk]at hk;cases hk
   |some x=>
    rw[hmk]at hk
    injection hk with hk;injection hk with h1 hk;injection hk with h2 hk
    cases hk
noncomputable def VR(F:List (List UInt8)→List (List UInt8))(V:Nat→Nat→List (List UInt8)→AV)(V0:AV→AV):List AV→St→Option (AV×St)
 |[.sl c m 0 len 1],st=>if len=0 then some (V0 (.sl c m 0 0 1),st)else match st.h.get c with
  |some (.row false ms)=>match ms[m]? with
   |some (e,vs,some l)=>if l.length=len∧0<len∧len≤1000000 then match E0 l with
     |some zs=>some (V c m zs,⟨st.n,st.h.set c (.row false (WG ms m e vs ((F zs).map Pp)))⟩)
     |none=>none
    else none
   |_=>none
  |_=>none
 |[.nils],st=>some (V0 .nils,st)
 |_,_=>none
theorem Gx{F:List (List UInt8)→List (List UInt8)}{V:Nat→Nat→List (List UInt8)→AV}{V0:AV→AV}{R:Option Addr→Nat→List (List UInt8)→Value}{R0:Value→Value}(hr:Real P f)(hF: ∀zs,(F zs).length=zs.length)
  (hV: ∀(p:JY) (h:Hp) c m zs q C e,zs≠[]→p c m=some q→h c=some C→(exts C)[m]? =some e→zs.length≤e→Qg p (V c m zs)=R (some ⟨q.b,q.d,none⟩) q.e zs∧WF h (V c m zs)) (hV0: ∀(p:JY) (h:Hp) (ks:AV),WF h ks→Qg p (V0 ks)=R0 (Qg p ks)∧WF h (V0 ks))
  (hC: ∀(b o cap:Nat) (zs:List (List UInt8)) (w:World),Holds encStr w b o zs.toArray→b<w.heap.size→zs.length≤1000000→zs.length≤cap→zs≠[]→Calls P f #[.slice (some ⟨b,o,none⟩) zs.length cap] w fun e w'=>e=.returned (R (some ⟨b,o,none⟩) cap zs)∧ ∃n os,w'=grow (putRow encStr (Sort.ahead w n) b o (F zs).toArray) os)
  (hC0: ∀(a:Option Addr) (cap:Nat) (w:World),Calls P f #[.slice a 0 cap] w fun e w'=>e=.returned (R0 (.slice a 0 cap))∧w'=w):H7 P G f (VR F V V0):=by
 intro args st v st' hs hf ha;unfold VR at hs
 split at hs
 ·rename_i c m len
  by_cases hl0:len=0
  ·rw[if_pos hl0]at hs
   injection hs with hs
   injection hs with e1 e2
   subst e1 e2 hl0;have hw:WF st.h.get (.sl c m 0 0 1):=ha.1;refine⟨hr,fun w0 p w H hG=>⟨Ab.refl _,?_⟩⟩;obtain⟨C,e,g1,g2,_,_⟩:=hw;obtain⟨q,hq⟩:=H.Fa c C g1 m (List.getElem?_eq_some_iff.1 g2).1
   have hcs:Qg p (.sl c m 0 0 1)=.slice (some ⟨q.b,q.d+0,none⟩) 0 ((q.e-0)/1):=by simp only[Qg,hq]
   have hv:=hV0 p st.h.get (.sl c m 0 0 1) ha.1;show Calls P f #[Qg p (.sl c m 0 0 1)] w _;rw[hcs]at hv ⊢;refine(hC0 _ _ w).mono fun e w'=>?_
   rintro⟨rfl,rfl⟩
   exact⟨p,by rw[hv.1],.refl H,hv.2⟩
  rw[if_neg hl0]at hs
  split at hs
  ·rename_i ms hc
   split at hs
   ·rename_i e vs l hm
    split at hs
    ·rename_i hcond;obtain⟨hlen,h0,h1M⟩:=hcond
     split at hs
     ·rename_i zs hzs
      injection hs with hs
      injection hs with e1 e2
      subst e1 e2;obtain⟨hzl,hzg⟩:=Nl hzs
      have hzn:zs≠[]:=by intro e;subst e;simp at hzl;omega
      obtain⟨hT,hself,honly⟩:=GH (l:=(F zs).map Pp) hm;have hexts:exts (.row false (WG ms m e vs ((F zs).map Pp)))=exts (.row false ms):=hT.exts;have hAb:Ab st ⟨st.n,st.h.set c (.row false (WG ms m e vs ((F zs).map Pp)))⟩:=Lf hc (by rw[hexts];exact List.prefix_refl _);refine⟨hr,fun w0 p w H hG=>⟨hAb,?_⟩⟩;have hR:=H.cls c _ hc;obtain⟨q,arr,el,g1,g2,g3,g4,g5,g6⟩:=hR.mem m e vs (some l) hm;obtain⟨k1,k2⟩:=g6 l rfl;have hb:=g2.own;have hblt:=(Array.getElem?_eq_some_iff.1 hb).1
      have hH:Holds encStr w q.b q.d zs.toArray:=by
       intro j hj
       have hj':j<zs.length:=by simpa using hj
       refine⟨?_,by simp[World.frozen?,hb]⟩;obtain⟨a,ha1,ha2⟩:=hzg p j _ (List.getElem?_eq_getElem hj');obtain⟨j1,_,_⟩:=k2 j a ha1;simp only[World.cell?,hb];simp only[Option.isSome_none,Bool.false_eq_true,if_false];rw[j1,ha2];simp[hj']
      have hargs:(Qx p [AV.sl c m 0 len 1]).toArray= #[.slice (some ⟨q.b,q.d,none⟩) zs.length q.e]:=by
       show #[Qg p (AV.sl c m 0 len 1)]=_;simp only[Qg,g1];rw[hzl,hlen];simp
      rw[hargs];refine(hC q.b q.d q.e zs w hH hblt Qh Qh hzn).mono fun e' w'=>?_
      rintro⟨rfl,n,os,rfl⟩
      have hv:=hV p (st.h.set c (.row false (WG ms m e vs ((F zs).map Pp)))).get c m zs q (.row false (WG ms m e vs ((F zs).map Pp))) e hzn g1 (by rw[Ut];exact UK _ _ _) (by rw[hexts];simp[exts,List.getElem?_map,hm]) Qh;refine⟨p,by rw[hv.1],?_,hv.2⟩
      have S1:=H.over hc hT hb (arr':=putCells encStr q.d (F zs).toArray arr) (by simp[putCells]) g1 rfl (fun k e1 vs1 l1 q1 hk hq1=>by
       obtain⟨rfl,rfl,rfl⟩:=honly k e1 vs1 l1 hk
       rw[g1]at hq1;injection hq1 with hq1;subst hq1
       refine⟨fun _=>⟨by rw[List.length_map,hF];omega,fun j a hj=>?_⟩,fun hne=>absurd rfl hne⟩;rw[List.getElem?_map]at hj
       cases hz:(F zs)[j]? with
       |none=>rw[hz]at hj;cases hj
       |some z=>
        rw[hz]at hj
        injection hj with hj
        subst hj;have hjl:=(List.getElem?_eq_some_iff.1 hz).1
        have hjl':j<zs.length:=by rw[←hF];exact hjl
        refine⟨?_,?_,rfl⟩
        ·rw[yk]
         have:q.d+j<arr.size:=by omega
         have hzj:=(List.getElem?_eq_some_iff.1 hz).2;simp[putCells,this,hjl,hzj]
        ·intro x hx;obtain⟨u,_,rfl⟩:=List.mem_map.1 hx
         exact u.toNat_lt)
      rw[Ut]
      have hset: ∀k,(putRow encStr (Sort.ahead w n) q.b q.d (F zs).toArray).heap[k]? =(w.setRow q.b (putCells encStr q.d (F zs).toArray arr)).heap[k]? :=fun k=>by
       by_cases hk:k=q.b
       ·subst hk;rw[setRow_heap w q.b arr _ el (0,0) hb];show(w.heap.modify q.b (onCells (putCells encStr q.d (F zs).toArray)))[q.b]? =_;rw[Array.getElem?_modify,if_pos rfl,hb];rfl
       ·rw[setRow_other w q.b k _ hk];show(w.heap.modify q.b (onCells (putCells encStr q.d (F zs).toArray)))[k]? =_;rw[Array.getElem?_modify,if_neg (fun e:q.b=k=>hk e.symm)]
      refine S1.trans (S1.hr.He ⟨rfl,rfl,rfl,?_,fun k hk=>?_⟩)
      ·simp[World.setRow,putRow,mapBlock,Sort.ahead,grow]
      ·rw[heap_grow_old _ _ (by simpa [World.setRow,putRow,mapBlock,Sort.ahead]using hk),hset]
     ·cases hs
    ·cases hs
   ·cases hs
  ·cases hs
 ·injection hs with hs
  injection hs with e1 e2
  subst e1 e2;refine⟨hr,fun w0 p w H hG=>⟨Ab.refl _,(hC0 none 0 w).mono fun e w'=>?_⟩⟩
  rintro⟨rfl,rfl⟩
  exact⟨p,by rw[(hV0 p st.h.get .nils trivial).1];rfl,.refl H,(hV0 p st.h.get .nils trivial).2⟩
 ·cases hs
def Ht(zs:List (List UInt8)):List (List UInt8):=zs.mergeSort fun x y=>decide (x≤y)
def H4(zs:List (List UInt8)):List (List UInt8):=Lib.compact zs++List.replicate (zs.length-(Lib.compact zs).length) []
def CN(_ _:Nat)(_:List (List UInt8)):AV:=.tup []
def L7(c m:Nat)(zs:List (List UInt8)):AV:=.sl c m 0 (Lib.compact zs).length 1
theorem A6(zs:List (List UInt8)):(Lib.compact zs).length≤zs.length:=by
 unfold Lib.compact Lib.compactUpTo;rw[List.length_map];refine Nat.le_trans (List.length_filter_le _ _) ?_;simp
theorem qC:H7 Tryz.prog G 119 (VR Ht CN fun _=>.tup []):=by
 refine Gx (R:=fun _ _ _=>.tuple #[]) (R0:=fun _=>.tuple #[]) ⟨_,Tryz.func119,rfl,by decide⟩ (fun zs=>List.length_mergeSort _) (fun p h c m zs q C e _ _ _ _ _=>⟨rfl,trivial⟩) (fun p h ks _=>⟨rfl,trivial⟩) (fun b o cap zs w hH hb hsz hcap hn=>?_) (fun a cap w=>?_)
 ·exact Any.slices_Sort_string Sz b o cap zs w hH hb Qh
 ·exact Any.slices_Sort_string_none Sz a cap w
theorem DU:H7 Tryz.prog G 120 (VR H4 L7 id):=by
 refine Gx (R:=fun a cap zs=>.slice a (Lib.compact zs).length cap) (R0:=id) ⟨_,Tryz.func120,rfl,by decide⟩ (fun zs=>?_) (fun p h c m zs q C e hn h1 h2 h3 h4=>?_) (fun p h ks hw=>⟨rfl,hw⟩) (fun b o cap zs w hH hb hsz hcap hn=>?_) (fun a cap w=>?_)
 ·have:=A6 zs;simp[H4];omega
 ·have:=A6 zs;refine⟨?_,?_⟩
  ·unfold L7;simp only[Qg,h1];simp
  ·unfold L7;exact⟨C,e,h2,h3,by decide,by omega⟩
 ·refine(Any.slices_Compact_string Sy b o cap zs w hH Qh hcap).mono fun e w'=>?_
  rintro⟨rfl,n,rfl⟩
  exact⟨rfl,n,#[],by rw[grow_empty];rfl⟩
 ·exact Any.slices_Compact_string_empty Sy a cap w
theorem Be{F:List (List UInt8)→List (List UInt8)}{V:Nat→Nat→List (List UInt8)→AV}{V0:AV→AV}(hs:G.s f=some (VR F V V0))(hf:Qw st){c m:Nat}{zs:List (List UInt8)}(hr:Jj st.h.get c m l)(hz:E0 l=some zs)(h0:zs≠[])(hb:zs.length≤1000000)(hF:(F zs).length=zs.length):
  ∃v st',Ev P G f [.sl c m 0 zs.length 1] st v st'∧v=V c m zs∧Jj st'.h.get c m ((F zs).map Pp)∧Ad [c] st st':=by
 have hlt:=hr.lt hf;obtain⟨vs,ms,h1,h2⟩:=hr;have hl:=(Nl hz).1;have hp:0<zs.length:=List.length_pos_iff.2 h0;obtain⟨hT,hself,_⟩:=GH (l:=(F zs).map Pp) h2
 have e:VR F V V0 [.sl c m 0 zs.length 1] st=some (V c m zs,⟨st.n,st.h.set c (.row false (WG ms m l.length vs ((F zs).map Pp)))⟩):=by
  unfold VR;show(if zs.length=0 then _ else _)=_;rw[if_neg Qh];simp only[h1,h2];rw[if_pos ⟨hl.symm,hp,hb⟩];simp only[hz]
 refine⟨V c m zs,⟨st.n,st.h.set c (.row false (WG ms m l.length vs ((F zs).map Pp)))⟩,⟨0,1,?_⟩,rfl,⟨vs,_,by rw[Ut];exact UK _ _ _,by rw[hself,List.length_map,hF,hl]⟩,⟨fun k hk=>?_,Nat.le_refl _,fun k hk hX=>?_⟩⟩
 ·show(Option.rec _ (fun sm=>sm [.sl c m 0 zs.length 1] st) (G.s f):Option (AV×St))=_;rw[hs];exact e
 ·have hk:st.n≤k:=hk;rw[Ut,XU _ _ Qh];exact hf k hk
 ·rw[Ut,XU _ _ (by simpa using hX)]
theorem Oj{F:List (List UInt8)→List (List UInt8)}{V:Nat→Nat→List (List UInt8)→AV}{V0:AV→AV}(hs:G.s f=some (VR F V V0))(hf:Qw st):Ev P G f [.nils] st (V0 .nils) st:=⟨0,1,by
 show(Option.rec _ (fun sm=>sm [.nils] st) (G.s f):Option (AV×St))=_
 rw[hs];rfl⟩
theorem Oi{F:List (List UInt8)→List (List UInt8)}{V:Nat→Nat→List (List UInt8)→AV}{V0:AV→AV}(hs:G.s f=some (VR F V V0))(hf:Qw st)(c m:Nat):Ev P G f [.sl c m 0 0 1] st (V0 (.sl c m 0 0 1)) st:=⟨0,1,by
 show(Option.rec _ (fun sm=>sm [.sl c m 0 0 1] st) (G.s f):Option (AV×St))=_;rw[hs];show VR F V V0 [.sl c m 0 0 1] st=_
 rfl⟩
theorem HG: ∀ls:List (List Nat),E0 (ls.map AV.str)=some (ls.map (·.map UInt8.ofNat))
 |[]=>rfl
 |s::ls=>by rw[List.map_cons,E0,HG ls];rfl
end
section
open Go

noncomputable section
def qB:List (FuncId×(List AV→St→Option (AV×St))):=
 (71,Aj 4 IJ)::
 (39,Aj 2 CU)::
 (80,yM BI)::
 (7,BC)::
 (119,VR Ht CN fun _=>.tup [])::
 (120,VR H4 L7 id)::
 []
def QR:Env:=⟨fun _=>false,SD SW,SC qB,LK⟩
end
theorem zF:LD Tryz.prog QR:=⟨fun f q h=>Pn (f,q) (GX h),fun f sm h=>by
 have h:SC qB f=some sm:=h;have h:=M1 h;unfold qB at h;rcases List.mem_cons.1 h with h|h
 ·injection h with e1 e2;subst e1 e2;exact P9
 rcases List.mem_cons.1 h with h|h
 ·injection h with e1 e2;subst e1 e2;exact uJ rfl
 rcases List.mem_cons.1 h with h|h
 ·injection h with e1 e2;subst e1 e2;exact MK
 rcases List.mem_cons.1 h with h|h
 ·injection h with e1 e2;subst e1 e2;exact PI (fun _=>rfl) zG (fun _=>trivial) mixed D1
 rcases List.mem_cons.1 h with h|h
 ·injection h with e1 e2;subst e1 e2;exact qC
 rcases List.mem_cons.1 h with h|h
 ·injection h with e1 e2;subst e1 e2;exact DU
 cases h⟩
end
section
open Go

theorem QH:tk Tryz.prog 3=.one:=by kernel_rfl
theorem BA:ZG Tryz.prog 3=some 1:=by kernel_rfl
theorem xz:zeroOf Tryz.prog 3=some [.int .i64 0]:=by kernel_rfl
theorem Ey:Tryz.prog.underlying 3=some (.int .i64):=by kernel_rfl
theorem yD:Tryz.prog.underlying 4=some (.bool):=by kernel_rfl
theorem IA:zeroOf Tryz.prog 5=some [.int .u8 0]:=by kernel_rfl
theorem YO:Tryz.prog.underlying 5=some (.int .u8):=by kernel_rfl
theorem J0:tk Tryz.prog 9=.one:=by kernel_rfl
theorem Gv:ZG Tryz.prog 9=some 1:=by kernel_rfl
theorem EB:zeroOf Tryz.prog 9=some [.str []]:=by kernel_rfl
theorem Up:Tryz.prog.underlying 9=some (.string):=by kernel_rfl
theorem ID:tk Tryz.prog 21=.one:=by kernel_rfl
theorem C8:Tryz.prog.underlying 21=some (.int .i32):=by kernel_rfl
theorem Xt:tk Tryz.prog 23=.one:=by kernel_rfl
theorem YF:ZG Tryz.prog 23=some 1:=by kernel_rfl
theorem QI:Tryz.prog.underlying 23=some (.slice 25):=by kernel_rfl
theorem Jf:UA Tryz.prog 23=some 5:=by kernel_rfl
theorem Qv:tk Tryz.prog 25=.agg 5:=by kernel_rfl
theorem Qi:ZG Tryz.prog 25=some 5:=by kernel_rfl
theorem Jc:zeroOf Tryz.prog 25=some [.str [],.str [],.int .i64 0,.int .i64 0,.nils]:=by kernel_rfl
theorem Hy:Jh Tryz.prog 25 0=some 0:=by kernel_rfl
theorem Gc:Jh Tryz.prog 25 1=some 1:=by kernel_rfl
theorem Gb:Jh Tryz.prog 25 2=some 2:=by kernel_rfl
theorem Ga:Jh Tryz.prog 25 3=some 3:=by kernel_rfl
theorem OZ:Jh Tryz.prog 25 4=some 4:=by kernel_rfl
theorem Fk:qb Tryz.prog 25 [(0,1),(1,1),(2,1),(3,1),(4,1)] [.str [],.str [],.int .i64 0,.int .i64 0,.nils]:=⟨⟨_,Tryz.underlying25,by kernel_rfl,by kernel_rfl⟩,Jc⟩
theorem Yt:tk Tryz.prog 29=.one:=by kernel_rfl
theorem Vy:ZG Tryz.prog 29=some 1:=by kernel_rfl
theorem Ux:Tryz.prog.underlying 29=some (.slice 79):=by kernel_rfl
theorem Zw:UA Tryz.prog 29=some 3:=by kernel_rfl
theorem UB:tk Tryz.prog 30=.one:=by kernel_rfl
theorem Xu:ZG Tryz.prog 30=some 1:=by kernel_rfl
theorem Xs:Tryz.prog.underlying 30=some (.slice 44):=by kernel_rfl
theorem Xy:UA Tryz.prog 30=some 8:=by kernel_rfl
theorem Ys:tk Tryz.prog 32=.agg 7:=by kernel_rfl
theorem UY:ZG Tryz.prog 32=some 7:=by kernel_rfl
theorem Lj:zeroOf Tryz.prog 32=some [.nils,.nils,.str [],.str [],.int .i64 0,.int .i64 0,.nils]:=by kernel_rfl
theorem OU:Jh Tryz.prog 32 0=some 0:=by kernel_rfl
theorem OT:Jh Tryz.prog 32 1=some 1:=by kernel_rfl
theorem OS:Jh Tryz.prog 32 2=some 2:=by kernel_rfl
theorem CK:qb Tryz.prog 32 [(0,1),(1,1),(2,5)] [.nils,.nils,.str [],.str [],.int .i64 0,.int .i64 0,.nils]:=⟨⟨_,Tryz.underlying32,by kernel_rfl,by kernel_rfl⟩,Lj⟩
theorem V9:tk Tryz.prog 44=.agg 8:=by kernel_rfl
theorem VB:ZG Tryz.prog 44=some 8:=by kernel_rfl
theorem ZA:zeroOf Tryz.prog 44=some [.str [],.nils,.str [],.str [],.int .i64 0,.int .i64 0,.nils,.int .i64 0]:=by kernel_rfl
theorem OY:Jh Tryz.prog 44 0=some 0:=by kernel_rfl
theorem OX:Jh Tryz.prog 44 1=some 1:=by kernel_rfl
theorem OW:Jh Tryz.prog 44 2=some 2:=by kernel_rfl
theorem OV:Jh Tryz.prog 44 3=some 7:=by kernel_rfl
theorem CL:qb Tryz.prog 44 [(0,1),(1,1),(2,5),(7,1)] [.str [],.nils,.str [],.str [],.int .i64 0,.int .i64 0,.nils,.int .i64 0]:=⟨⟨_,Tryz.underlying44,by kernel_rfl,by kernel_rfl⟩,ZA⟩
theorem CB:tk Tryz.prog 102=.one:=by kernel_rfl
theorem Fi:ZG Tryz.prog 102=some 1:=by kernel_rfl
theorem XG:Tryz.prog.underlying 102=some (.slice 9):=by kernel_rfl
theorem Jz:UA Tryz.prog 102=some 1:=by kernel_rfl
theorem CA:tk Tryz.prog 117=.agg 2:=by kernel_rfl
theorem Fh:ZG Tryz.prog 117=some 2:=by kernel_rfl
theorem Li:zeroOf Tryz.prog 117=some [.nils,.nils]:=by kernel_rfl
theorem OP:Jh Tryz.prog 117 0=some 0:=by kernel_rfl
theorem OO:Jh Tryz.prog 117 1=some 1:=by kernel_rfl
theorem Ln:qb Tryz.prog 117 [(0,1),(1,1)] [.nils,.nils]:=⟨⟨_,Tryz.underlying117,by kernel_rfl,by kernel_rfl⟩,Li⟩
theorem VA:tk Tryz.prog 79=.agg 3:=by kernel_rfl
theorem CH:ZG Tryz.prog 79=some 3:=by kernel_rfl
theorem V5:zeroOf Tryz.prog 79=some [.str [],.int .i64 0,.int .i64 0]:=by kernel_rfl
theorem Gf:Jh Tryz.prog 79 0=some 0:=by kernel_rfl
theorem Ge:Jh Tryz.prog 79 1=some 1:=by kernel_rfl
theorem Gd:Jh Tryz.prog 79 2=some 2:=by kernel_rfl
theorem CM:qb Tryz.prog 79 [(0,1),(1,1),(2,1)] [.str [],.int .i64 0,.int .i64 0]:=⟨⟨_,Tryz.underlying79,by kernel_rfl,by kernel_rfl⟩,V5⟩
theorem Ff:tk Tryz.prog 58=.one:=by kernel_rfl
theorem W2:Tryz.prog.underlying 58=some (.slice 71):=by kernel_rfl
theorem ZS:UA Tryz.prog 58=some 4:=by kernel_rfl
theorem U2:tk Tryz.prog 71=.agg 4:=by kernel_rfl
theorem Ai:ZG Tryz.prog 71=some 4:=by kernel_rfl
theorem XS:zeroOf Tryz.prog 71=some [.int .i64 0,.str [],.int .i64 0,.int .i64 0]:=by kernel_rfl
theorem Oa:Jh Tryz.prog 71 0=some 0:=by kernel_rfl
theorem NZ:Jh Tryz.prog 71 1=some 1:=by kernel_rfl
theorem NY:Jh Tryz.prog 71 2=some 2:=by kernel_rfl
theorem NX:Jh Tryz.prog 71 3=some 3:=by kernel_rfl
theorem WO(l:List AV):F6 Tryz.prog 71 (.agg l) 0=Wc Tryz.prog 3 l 0:=by kernel_rfl
theorem F7(l:List AV):F6 Tryz.prog 71 (.agg l) 1=Wc Tryz.prog 9 l 1:=by kernel_rfl
theorem U0(l:List AV):F6 Tryz.prog 71 (.agg l) 3=Wc Tryz.prog 3 l 3:=by kernel_rfl
theorem BF:qb Tryz.prog 71 [(0,1),(1,1),(2,1),(3,1)] [.int .i64 0,.str [],.int .i64 0,.int .i64 0]:=⟨⟨_,Tryz.underlying71,by kernel_rfl,by kernel_rfl⟩,XS⟩
theorem Bz:Tryz.prog.underlying 34=some (.int .u64):=by kernel_rfl
theorem YE:tk Tryz.prog 84=.one:=by kernel_rfl
theorem Hs:ZG Tryz.prog 84=some 1:=by kernel_rfl
theorem YD:Tryz.prog.underlying 84=some (.slice 107):=by kernel_rfl
theorem V2:UA Tryz.prog 84=some 2:=by kernel_rfl
theorem VX:zeroOf Tryz.prog 86=some [.str [],.nils,.int .i64 0,.int .i64 0]:=by kernel_rfl
theorem AZ:Jh Tryz.prog 86 0=some 0:=by kernel_rfl
theorem AY:Jh Tryz.prog 86 1=some 1:=by kernel_rfl
theorem AX:Jh Tryz.prog 86 2=some 2:=by kernel_rfl
theorem AW:Jh Tryz.prog 86 3=some 3:=by kernel_rfl
theorem Hj:qb Tryz.prog 86 [(0,1),(1,1),(2,1),(3,1)] [.str [],.nils,.int .i64 0,.int .i64 0]:=⟨⟨_,Tryz.underlying86,by kernel_rfl,by kernel_rfl⟩,VX⟩
theorem VW:zeroOf Tryz.prog 63=some [.nils,.int .i64 0,.int .i64 0,.int .i64 0]:=by kernel_rfl
theorem AU:Jh Tryz.prog 63 0=some 0:=by kernel_rfl
theorem AT:Jh Tryz.prog 63 1=some 1:=by kernel_rfl
theorem AS:Jh Tryz.prog 63 2=some 2:=by kernel_rfl
theorem AR:Jh Tryz.prog 63 3=some 3:=by kernel_rfl
theorem VZ:qb Tryz.prog 63 [(0,1),(1,1),(2,1),(3,1)] [.nils,.int .i64 0,.int .i64 0,.int .i64 0]:=⟨⟨_,Tryz.underlying63,by kernel_rfl,by kernel_rfl⟩,VW⟩
theorem OR:Jh Tryz.prog 107 0=some 0:=by kernel_rfl
theorem OQ:Jh Tryz.prog 107 1=some 1:=by kernel_rfl
theorem ZB:Tryz.prog.underlying 22=some (.slice 5):=by kernel_rfl
theorem QC:LL Tryz.prog 23 25 5:=⟨QI,by kernel_rfl,⟨_,Jc,rfl⟩,by kernel_rfl,by decide,by decide+kernel⟩
theorem JZ:LL Tryz.prog 29 79 3:=⟨Ux,by kernel_rfl,⟨_,V5,rfl⟩,by kernel_rfl,by decide,by decide+kernel⟩
theorem UU:LL Tryz.prog 30 44 8:=⟨Xs,by kernel_rfl,⟨_,ZA,rfl⟩,by kernel_rfl,by decide,by decide+kernel⟩
theorem UI:LL Tryz.prog 102 9 1:=⟨XG,by kernel_rfl,⟨_,EB,rfl⟩,by kernel_rfl,by decide,by decide+kernel⟩
theorem W7:LL Tryz.prog 58 71 4:=⟨W2,by kernel_rfl,⟨_,XS,rfl⟩,by kernel_rfl,by decide,by decide+kernel⟩
theorem HP:LL Tryz.prog 22 5 1:=⟨ZB,by kernel_rfl,⟨_,IA,rfl⟩,by kernel_rfl,by decide,by decide+kernel⟩
end
section
open Go

theorem EC:zeroOf Tryz.prog 55=some [.nils]:=by kernel_rfl
theorem Iq:Jh Tryz.prog 55 0=some 0:=by kernel_rfl
theorem KN:qb Tryz.prog 55 [(0,1)] [.nils]:=⟨⟨_,Tryz.underlying55,by kernel_rfl,by kernel_rfl⟩,EC⟩
theorem Ej:zeroOf Tryz.prog 42=some [.nils,.int .i64 0]:=by kernel_rfl
theorem Hm:Jh Tryz.prog 42 0=some 0:=by kernel_rfl
theorem Hl:Jh Tryz.prog 42 1=some 1:=by kernel_rfl
theorem IH:qb Tryz.prog 42 [(0,1),(1,1)] [.nils,.int .i64 0]:=⟨⟨_,Tryz.underlying42,by kernel_rfl,by kernel_rfl⟩,Ej⟩
theorem KM:tk Tryz.prog 100=.agg 2:=by kernel_rfl
theorem Tq:ZG Tryz.prog 100=some 2:=by kernel_rfl
theorem Wr:zeroOf Tryz.prog 100=some [.int .i64 0,.int .i64 0]:=by kernel_rfl
end
end Go.Proofs.YtaomhhkflohhgaaGreatDoor
