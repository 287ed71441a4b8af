/-
  show.Prog of a program that is read off what was handed in.
-/
import Derived.Test.YthjgndgnmkiaiaaGreatDoorZpPx
import Derived.Shelf.Sort.Plain
import Derived.Shelf.Slices.CompactI
import Derived.Shelf.Slices.In.SortNone
import Derived.Shelf.Strconv.AppendIntPublic10
import Derived.Lib.SlicesCompact
import Derived.Lib.ItoaNum
set_option linter.unusedVariables false
namespace Go.Proofs.YthjgndgnmkiaiaaGreatDoor
section
open Go Go.RowKit Go.Shelf
set_option maxRecDepth 100000
variable {cs:List AV} {kk:AV} {ls:List (List AV)}

theorem Ja.wf{w0 w:World}{p:Jy}{h:Hp}{z:Nat}{ks:AV}(H:HR w0 p h w)(r:Ja h [] z ls ks){i:Nat}(hi:ls[i]? =some cs):YN h cs:=by
 obtain⟨c,m,off,cells,e,_,⟨ro,en,vs,ms,hc,hm⟩,hlen,hpart⟩:=r.at_ i cs hi;have hR:VD w0.heap.size p h w c ro ms:=H.cls c _ hc;obtain⟨q,arr,el,g1,_,_,_,_,g6⟩:=hR.mem m en vs (some cells) hm;obtain⟨k1,k2⟩:=g6 cells rfl;refine(JJ _ _).2 fun v hv=>?_;rw[←hpart]at hv;obtain⟨j,hj⟩:=List.getElem?_of_mem (List.mem_of_mem_drop (List.mem_of_mem_take hv));exact(k2 j v hj).2.1
theorem Mw{w:World}{q:Jy}{h:Hp}{l:List Dc}(hD:LV h l kk ls):ls.map (Qn q)=l.map kv:=by
 apply List.ext_getElem?;intro i;rw[List.getElem?_map,List.getElem?_map]
 cases hi:l[i]? with
 |none=>
  have h1:=List.getElem?_eq_none_iff.1 hi;rw[List.getElem?_eq_none (by rw[hD.ln];exact h1)];rfl
 |some d=>
  obtain⟨cs,h1,rfl,_⟩:=hD.at_ i d hi;rw[h1];rfl
section
variable {w:World} {q:Jy} {ml:A9} (H:HR w q (Vq ml) w)
theorem oG:KF w q HV:=⟨fun g hg=>(by cases hg),trivial⟩
include H
theorem R9{l:List Dc}(hD:LV (Vq ml) l kk ls)(hB:l.all Ya=true): ∀d∈l,Ch w d:=by
 intro d hd;unfold Ch;intro w1 hb;obtain⟨i,hi⟩:=List.getElem?_of_mem hd;obtain⟨cs,_,_,hby⟩:=hD.at_ i d hi;obtain⟨v,st',hev,rfl,_⟩:=vd (Em ml) (nm:=d.name) (od:=d.order) (at_:=d.at_) (List.all_eq_true.1 hB d hd);have h:=RK (args:=[.agg [.str d.name,.int .i64 d.order,.int .i64 d.at_]]) MV mixed oG H ⟨⟨hby,trivial,trivial,trivial⟩,trivial⟩ hev hb;exact h
theorem Rj{x:Nd}{o s:List Nat}{n a:Int}(hr:XW (Vq ml) x [.str o,.str s,.int .i64 n,.int .i64 a,kk])(hw:YN (Vq ml) [.str o,.str s,.int .i64 n,.int .i64 a,kk])(hf:Jg x=true)(hz:YT x≤1000):qv w x #[.string (bytesOf o),.string (bytesOf s),.int .i64 n,.int .i64 a,Qe q kk]:=by
 unfold qv;intro w1 hb;obtain⟨v,st',hev,rfl,_⟩:=x8 x (stM ml) _ (Em ml) (by rw[WL];exact hr) hf hz;have h:=RK (args:=[.agg [.str o,.str s,.int .i64 n,.int .i64 a,kk]]) MV mixed oG H ⟨hw,trivial⟩ hev hb;exact h
theorem zf{p:Pd}(hr:kj (Vq ml) p cs)(hw:YN (Vq ml) cs)(hB:XN p=true)(hz:YT p.body≤1000):vI w p (Qn q cs)∧ ∀d∈p.params,Ch w d:=by
 obtain⟨h1,h2,h3,h4⟩:=ID hB;obtain⟨kp,lp,o,s,n,a,kk,rfl,hD,hN,hby⟩:=hr;obtain⟨w1,w2,w3,w4,w5,w6,w7,w8,_⟩:=hw;have hN0:=hN
 obtain⟨ob,sb,nb,ab,kb,hbd⟩: ∃ob sb nb ab kb,p.body=.mk ob sb nb ab kb:=by
  cases hq:p.body with
  |mk ob sb nb ab kb=>exact⟨_,_,_,_,_,rfl⟩
 rw[hbd]at hN0;obtain⟨kx,ls,ex,hK,_⟩:=hN0.J3
 injection ex with _ x;injection x with _ x;injection x with _ x;injection x with _ x;injection x with x _
 subst x;obtain⟨A,c,hk,_⟩:=Ja.wm H w7 hK.r;refine⟨⟨Qe q kp,bytesOf o,bytesOf s,n,a,A,(ls.map (Qn q)).length,c,?_,?_,?_⟩,R9 H hD h3⟩
 ·rw[←hk];rfl
 ·rw[←Mw (w:=w) (q:=q) hD];exact Ja.wm H w2 hD.r
 ·rw[←hk];exact Rj H hN ⟨w3,w4,w5,w6,w7,trivial⟩ h4 hz
theorem zd{g:Pg}(hw:YN (Vq ml) cs)(hr:u5 (Vq ml) g cs)(hg:Ll g):Calls Tryz.prog 7 #[.agg (Qn q cs).toArray] w fun e w'=>e=.returned (.string (bytesOf (QQ (Xk g))))∧Below w.heap.size w w':=by
 have hB:=hg.1;unfold Vd at hB;simp only[Bool.and_eq_true]at hB;obtain⟨h1,h2,h3,h4⟩:=hB;obtain⟨kd,ld,kp,lp,o,s,n,a,kk,rfl,hD,hP,hM⟩:=hr;obtain⟨w1,w2,w3,w4,w5,w6,w7,_⟩:=hw
 have hpc: ∀(i:Nat) p,g.preds[i]? =some p→ ∃cs,lp[i]? =some cs∧vI w p (Qn q cs)∧ ∀d∈p.params,Ch w d:=fun i p hi=>by
  obtain⟨cs,k1,k2⟩:=hP.at_ i p hi;have hm:=List.mem_of_getElem? hi;exact⟨cs,k1,zf H k2 (Ja.wf H hP.r k1) (List.all_eq_true.1 h2 p hm) (hg.2.2.1 p hm)⟩
 exact jo hg (by rw[←Mw (w:=w) (q:=q) hD];exact Ja.wm H w1 hD.r) (R9 H hD h1) (Ja.wm H w2 hP.r) (by rw[List.length_map];exact hP.ln)
  (fun i p hi=>by
   obtain⟨cs,k1,k2,_⟩:=hpc i p hi
   exact⟨_,by rw[List.getElem?_map,k1];rfl,k2⟩)
  (fun p hp=>by
   obtain⟨i,hi⟩:=List.getElem?_of_mem hp;obtain⟨_,_,_,k⟩:=hpc i p hi
   exact k)
  (Rj H hM ⟨w3,w4,w5,w6,w7,trivial⟩ h4 hg.2.1)
end
end
section
open Go Go.RowKit Go.Shelf

def nT:Ren:=⟨
 fun n=>if n=20 then 262 else 0,
 fun n=>if n=0 then 0 else if n=3 then 3 else if n=4 then 4 else if n=22 then 171 else 0,
 fun _=>0⟩

set_option maxRecDepth 100000 in
theorem xd:Lays2.n20 Tryz.prog nT:={
 mixed:=by kernel_rfl
 f20:=by kernel_rfl
 t0:=by kernel_rfl
 a0:=fun _=>by kernel_rfl
 z0:=fun _=>by kernel_rfl
 v0:=fun _=>by kernel_rfl
 t3:=by kernel_rfl
 a3:=fun _=>by kernel_rfl
 z3:=fun _=>by kernel_rfl
 v3:=fun _=>by kernel_rfl
 t4:=by kernel_rfl
 a4:=fun _=>by kernel_rfl
 z4:=fun _=>by kernel_rfl
 v4:=fun _=>by kernel_rfl
 t22:=by kernel_rfl
 a22:=fun _=>by kernel_rfl
 z22:=fun _=>by kernel_rfl
 v22:=fun _=>by kernel_rfl
 i3:=by kernel_rfl}
def l3:Ren:=⟨
 fun n=>if n=129 then 171 else if n=176 then 313 else if n=249 then 330 else if n=283 then 128 else if n=284 then 129 else if n=285 then 130 else if n=286 then 131 else if n=288 then 336 else if n=317 then 170 else if n=318 then 172 else if n=319 then 173 else if n=320 then 174 else if n=337 then 214 else if n=338 then 215 else 0,
 fun n=>if n=0 then 0 else if n=2 then 2 else if n=3 then 3 else if n=4 then 4 else if n=5 then 5 else if n=9 then 9 else if n=20 then 20 else if n=37 then 51 else if n=46 then 211 else if n=51 then 218 else if n=53 then 180 else if n=171 then 179 else if n=173 then 183 else if n=212 then 217 else if n=213 then 219 else if n=232 then 311 else if n=233 then 312 else 0,
 fun n=>if n=17 then 3 else if n=18 then 4 else if n=19 then 5 else 0⟩

set_option maxRecDepth 100000 in
theorem eb:Lays.n176 Tryz.prog l3:={
 mixed:=by kernel_rfl
 f129:=by kernel_rfl
 f176:=by kernel_rfl
 f249:=by kernel_rfl
 f283:=by kernel_rfl
 f284:=by kernel_rfl
 f285:=by kernel_rfl
 f286:=by kernel_rfl
 f288:=by kernel_rfl
 f317:=by kernel_rfl
 f318:=by kernel_rfl
 f319:=by kernel_rfl
 f320:=by kernel_rfl
 f337:=by kernel_rfl
 f338:=by kernel_rfl
 t0:=by kernel_rfl
 a0:=fun _=>by kernel_rfl
 z0:=fun _=>by kernel_rfl
 v0:=fun _=>by kernel_rfl
 t2:=by kernel_rfl
 a2:=fun _=>by kernel_rfl
 z2:=fun _=>by kernel_rfl
 v2:=fun _=>by kernel_rfl
 t3:=by kernel_rfl
 a3:=fun _=>by kernel_rfl
 z3:=fun _=>by kernel_rfl
 v3:=fun _=>by kernel_rfl
 t4:=by kernel_rfl
 a4:=fun _=>by kernel_rfl
 z4:=fun _=>by kernel_rfl
 v4:=fun _=>by kernel_rfl
 t5:=by kernel_rfl
 a5:=fun _=>by kernel_rfl
 z5:=fun _=>by kernel_rfl
 v5:=fun _=>by kernel_rfl
 t9:=by kernel_rfl
 a9:=fun _=>by kernel_rfl
 z9:=fun _=>by kernel_rfl
 v9:=fun _=>by kernel_rfl
 t20:=by kernel_rfl
 a20:=fun _=>by kernel_rfl
 z20:=fun _=>by kernel_rfl
 v20:=fun _=>by kernel_rfl
 t37:=by kernel_rfl
 a37:=fun _=>by kernel_rfl
 z37:=fun _=>by kernel_rfl
 v37:=fun _=>by kernel_rfl
 t46:=by kernel_rfl
 a46:=fun _=>by kernel_rfl
 z46:=fun _=>by kernel_rfl
 v46:=fun _=>by kernel_rfl
 t51:=by kernel_rfl
 a51:=fun _=>by kernel_rfl
 z51:=fun _=>by kernel_rfl
 v51:=fun _=>by kernel_rfl
 t53:=by kernel_rfl
 a53:=fun _=>by kernel_rfl
 z53:=fun _=>by kernel_rfl
 v53:=fun _=>by kernel_rfl
 t171:=by kernel_rfl
 a171:=fun _=>by kernel_rfl
 z171:=fun _=>by kernel_rfl
 v171:=fun _=>by kernel_rfl
 t173:=by kernel_rfl
 a173:=fun _=>by kernel_rfl
 z173:=fun _=>by kernel_rfl
 v173:=fun _=>by kernel_rfl
 t212:=by kernel_rfl
 a212:=fun _=>by kernel_rfl
 z212:=fun _=>by kernel_rfl
 v212:=fun _=>by kernel_rfl
 t213:=by kernel_rfl
 a213:=fun _=>by kernel_rfl
 z213:=fun _=>by kernel_rfl
 t232:=by kernel_rfl
 a232:=fun _=>by kernel_rfl
 z232:=fun _=>by kernel_rfl
 v232:=fun _=>by kernel_rfl
 t233:=by kernel_rfl
 a233:=fun _=>by kernel_rfl
 z233:=fun _=>by kernel_rfl
 v233:=fun _=>by kernel_rfl
 g17:=by kernel_rfl
 g18:=by kernel_rfl
 g19:=by kernel_rfl}
set_option maxRecDepth 100000 in
theorem xa:LaysM.n176 Tryz.prog l3:={
 ton176:=eb
 i0:=by kernel_rfl
 i2:=by kernel_rfl
 i3:=by kernel_rfl
 i4:=by kernel_rfl
 i5:=by kernel_rfl
 i9:=by kernel_rfl
 i20:=by kernel_rfl
 i37:=by kernel_rfl
 i46:=by kernel_rfl
 i51:=by kernel_rfl
 i53:=by kernel_rfl
 i171:=by kernel_rfl
 i173:=by kernel_rfl
 i212:=by kernel_rfl
 i232:=by kernel_rfl
 i233:=by kernel_rfl
 m17:=by kernel_rfl
 m18:=by kernel_rfl
 m19:=by kernel_rfl}
end
section
open Go

def oh(x:Int):List Int→List Int
 |[]=>[x]
 |y::l=>if y<x then y::oh x l else if y=x then y::l else x::y::l
def xl(n:Int):List Nat:=(Lib.itoa n).map UInt8.toNat
def PU:List Int→List Nat
 |[]=>[]
 |n::l=>xl n++44::PU l
theorem Dq(u:Nat)(h:u<10):(UInt8.ofNat (48+u)).toNat=48+u:=by
 rw[UInt8.toNat_ofNat'];omega
theorem PY(n:Int): ∀x∈xl n,x<256:=by
 intro x h;obtain⟨c,_,rfl⟩:=List.mem_map.1 h;exact c.toNat_lt
theorem O3: ∀l:List Int,∀x∈PU l,x<256
 |[],x,h=>by cases h
 |n::l,x,h=>by
  rw[PU]at h;rcases List.mem_append.1 h with h|h
  ·exact PY n x h
  ·rcases List.mem_cons.1 h with rfl|h
   ·decide
   ·exact O3 l x h

end
section
open Go Go.RowKit Go.Shelf Go.Sort
variable {l:List AV}

def HA:List AV→Option (List Int)
 |[]=>some []
 |.int .i64 s::l=>(HA l).map (s:: ·)
 |_::_=>none
def u9(z:Int):AV:=.int .i64 z
theorem uH(p:Jy)(z:Int):Qe p (u9 z)=Value.int .i64 z:=rfl
theorem BK{zs:List Int}(h:HA l=some zs):l=zs.map u9:=by
 induction l generalizing zs with
 |nil=>injection h with h;subst h;rfl
 |cons a l ih=>
  unfold HA at h
  split at h
  ·rename_i h1;cases h1
  ·rename_i s l' h1
   injection h1 with h1 h2
   subst h1 h2
   cases hl:HA l with
   |none=>rw[hl]at h;cases h
   |some zl=>
    rw[hl]at h
    injection h with h
    subst h;rw[List.map_cons,←ih hl];rfl
  ·cases h
theorem Tw{zs:List Int}(h:HA l=some zs):zs.length=l.length∧ ∀(p:Jy) (j:Nat) (z:Int),zs[j]? =some z→ ∃a,l[j]? =some a∧Qe p a=Value.int .i64 z:=by
 rw[BK h];exact⟨by simp,fun p j z hj=>⟨u9 z,by rw[List.getElem?_map,hj];rfl,rfl⟩⟩
def Du(ms:List (Nat×Nat×Option (List AV))):List (Nat×Nat×Option (List AV)):=ms.map fun x=>(x.1,x.2.1,none)
def Ew(ms:List (Nat×Nat×Option (List AV)))(m e vs:Nat)(l:List AV):List (Nat×Nat×Option (List AV)):=(Du ms).set m (e,vs,some l)
theorem jC{ms:List (Nat×Nat×Option (List AV))}{m e vs:Nat}{cs0:Option (List AV)}(h:ms[m]? =some (e,vs,cs0)):Told ms (Ew ms m e vs l)∧(Ew ms m e vs l)[m]? =some (e,vs,some l)∧ ∀k e' vs' l',(Ew ms m e vs l)[k]? =some (e',vs',some l')→k=m∧e'=e∧l'=l:=by
 have hlt:=(List.getElem?_eq_some_iff.1 h).1
 have hself:(Ew ms m e vs l)[m]? =some (e,vs,some l):=by
  unfold Ew;rw[List.getElem?_set_self (by simp[Du,hlt])]
 have hoth: ∀k,k≠m→(Ew ms m e vs l)[k]? =(ms[k]?).map fun x=>(x.1,x.2.1,none):=fun k hk=>by
  unfold Ew;rw[List.getElem?_set_ne (fun e=>hk e.symm),Du,List.getElem?_map]
 refine⟨⟨by simp[Ew,Du],fun k e' vs' cs hk=>?_⟩,hself,fun k e' vs' l' hk=>?_⟩
 ·by_cases hkm:k=m
  ·subst hkm;rw[hself]at hk
   injection hk with hk;injection hk with h1 hk;injection hk with h2 hk
   subst h1 h2;exact⟨_,h⟩
  ·rw[hoth k hkm]at hk
   cases hmk:ms[k]? with
   |none=>rw[hmk]at hk;cases hk
   |some x=>
    rw[hmk]at hk;obtain⟨a,b,c⟩:=x
    injection hk with hk;injection hk with h1 hk;injection hk with h2 hk
    subst h1 h2;exact⟨_,rfl⟩
 ·by_cases hkm:k=m
  ·subst hkm;rw[hself]at hk
   injection hk with hk;injection hk with h1 hk;injection hk with h2 hk;injection hk with hk
   exact⟨rfl,h1.symm,hk.symm⟩
  ·rw[hoth k hkm]at hk
   cases hmk:ms[k]? with
   |none=>rw[hmk]at hk;cases hk
   |some x=>
    rw[hmk]at hk
    injection hk with hk;injection hk with h1 hk;injection hk with h2 hk
    cases hk
noncomputable def Ni(F:List Int→List Int)(V:Nat→Nat→List Int→AV)(V0:AV→AV):List AV→St→Option (AV×St)
 |[.sl c m 0 len 1],st=>if len=0 then some (V0 (.sl c m 0 0 1),st)else match st.h.get c with
  |some (.row false ms)=>match ms[m]? with
   |some (e,vs,some l)=>if l.length=len∧0<len∧len≤1000000 then match HA l with
     |some zs=>some (V c m zs,⟨st.n,st.h.set c (.row false (Ew ms m e vs ((F zs).map u9)))⟩)
     |none=>none
    else none
   |_=>none
  |_=>none
 |[.nils],st=>some (V0 .nils,st)
 |_,_=>none
theorem S7{P:Program}{G:Env}{f:FuncId}{F:List Int→List Int}{V:Nat→Nat→List Int→AV}{V0:AV→AV}{R:Option Addr→Nat→List Int→Value}{R0:Value→Value}(hr:Real P f)(hF: ∀zs,(F zs).length=zs.length)
  (hV: ∀(p:Jy) (h:Hp) c m zs q C e,zs≠[]→p c m=some q→h c=some C→(exts C)[m]? =some e→zs.length≤e→Qe p (V c m zs)=R (some ⟨q.b,q.d,none⟩) q.e zs∧WF h (V c m zs)) (hV0: ∀(p:Jy) (h:Hp) (ks:AV),WF h ks→Qe p (V0 ks)=R0 (Qe p ks)∧WF h (V0 ks))
  (hC: ∀(b o cap:Nat) (zs:List Int) (w:World),Holds (Value.int .i64) w b o zs.toArray→b<w.heap.size→zs.length≤1000000→zs.length≤cap→zs≠[]→Calls P f #[.slice (some ⟨b,o,none⟩) zs.length cap] w fun e w'=>e=.returned (R (some ⟨b,o,none⟩) cap zs)∧ ∃n os,w'=grow (putRow (Value.int .i64) (Sort.ahead w n) b o (F zs).toArray) os)
  (hC0: ∀(a:Option Addr) (cap:Nat) (w:World),Calls P f #[.slice a 0 cap] w fun e w'=>e=.returned (R0 (.slice a 0 cap))∧w'=w):Vh P G f (Ni F V V0):=by
 intro args st v st' hs hf ha;unfold Ni at hs
 split at hs
 ·rename_i c m len
  by_cases hl0:len=0
  ·rw[if_pos hl0]at hs
   injection hs with hs
   injection hs with e1 e2
   subst e1 e2 hl0;have hw:WF st.h.get (.sl c m 0 0 1):=ha.1;refine⟨hr,fun w0 p w H hG=>⟨Ab.refl _,?_⟩⟩;obtain⟨C,e,g1,g2,_,_⟩:=hw;obtain⟨q,hq⟩:=H.Ed c C g1 m (List.getElem?_eq_some_iff.1 g2).1
   have hcs:Qe p (.sl c m 0 0 1)=.slice (some ⟨q.b,q.d+0,none⟩) 0 ((q.e-0)/1):=by simp only[Qe,hq]
   have hv:=hV0 p st.h.get (.sl c m 0 0 1) ha.1;show Calls P f #[Qe p (.sl c m 0 0 1)] w _;rw[hcs]at hv ⊢;refine(hC0 _ _ w).mono fun e w'=>?_
   rintro⟨rfl,rfl⟩
   exact⟨p,by rw[hv.1],.refl H,hv.2⟩
  rw[if_neg hl0]at hs
  split at hs
  ·rename_i ms hc
   split at hs
   ·rename_i e vs l hm
    split at hs
    ·rename_i hcond;obtain⟨hlen,h0,h1M⟩:=hcond
     split at hs
     ·rename_i zs hzs
      injection hs with hs
      injection hs with e1 e2
      subst e1 e2;obtain⟨hzl,hzg⟩:=Tw hzs
      have hzn:zs≠[]:=by intro e;subst e;simp at hzl;omega
      obtain⟨hT,hself,honly⟩:=jC (l:=(F zs).map u9) hm;have hexts:exts (.row false (Ew ms m e vs ((F zs).map u9)))=exts (.row false ms):=hT.exts;have hAb:Ab st ⟨st.n,st.h.set c (.row false (Ew ms m e vs ((F zs).map u9)))⟩:=Im hc (by rw[hexts];exact List.prefix_refl _);refine⟨hr,fun w0 p w H hG=>⟨hAb,?_⟩⟩;have hR:=H.cls c _ hc;obtain⟨q,arr,el,g1,g2,g3,g4,g5,g6⟩:=hR.mem m e vs (some l) hm;obtain⟨k1,k2⟩:=g6 l rfl;have hb:=g2.own;have hblt:=(Array.getElem?_eq_some_iff.1 hb).1
      have hH:Holds (Value.int .i64) w q.b q.d zs.toArray:=by
       intro j hj
       have hj':j<zs.length:=by simpa using hj
       refine⟨?_,by simp[World.frozen?,hb]⟩;obtain⟨a,ha1,ha2⟩:=hzg p j _ (List.getElem?_eq_getElem hj');obtain⟨j1,_,_⟩:=k2 j a ha1;simp only[World.cell?,hb];simp only[Option.isSome_none,Bool.false_eq_true,if_false];rw[j1,ha2];simp[hj']
      have hargs:(Qn p [AV.sl c m 0 len 1]).toArray= #[.slice (some ⟨q.b,q.d,none⟩) zs.length q.e]:=by
       show #[Qe p (AV.sl c m 0 len 1)]=_;simp only[Qe,g1];rw[hzl,hlen];simp
      rw[hargs];refine(hC q.b q.d q.e zs w hH hblt Qk Qk hzn).mono fun e' w'=>?_
      rintro⟨rfl,n,os,rfl⟩
      have hv:=hV p (st.h.set c (.row false (Ew ms m e vs ((F zs).map u9)))).get c m zs q (.row false (Ew ms m e vs ((F zs).map u9))) e hzn g1 (by rw[Uq];exact UG _ _ _) (by rw[hexts];simp[exts,List.getElem?_map,hm]) Qk;refine⟨p,by rw[hv.1],?_,hv.2⟩
      have S1:=H.over hc hT hb (arr':=putCells (Value.int .i64) q.d (F zs).toArray arr) (by simp[putCells]) g1 rfl (fun k e1 vs1 l1 q1 hk hq1=>by
       obtain⟨rfl,rfl,rfl⟩:=honly k e1 vs1 l1 hk
       rw[g1]at hq1;injection hq1 with hq1;subst hq1
       refine⟨fun _=>⟨by rw[List.length_map,hF];omega,fun j a hj=>?_⟩,fun hne=>absurd rfl hne⟩;rw[List.getElem?_map]at hj
       cases hz:(F zs)[j]? with
       |none=>rw[hz]at hj;cases hj
       |some z=>
        rw[hz]at hj
        injection hj with hj
        subst hj;have hjl:=(List.getElem?_eq_some_iff.1 hz).1
        have hjl':j<zs.length:=by rw[←hF];exact hjl
        refine⟨?_,?_,rfl⟩
        ·rw[uH]
         have:q.d+j<arr.size:=by omega
         have hzj:=(List.getElem?_eq_some_iff.1 hz).2;simp[putCells,this,hjl,hzj]
        ·trivial)
      rw[Uq]
      have hset: ∀k,(putRow (Value.int .i64) (Sort.ahead w n) q.b q.d (F zs).toArray).heap[k]? =(w.setRow q.b (putCells (Value.int .i64) q.d (F zs).toArray arr)).heap[k]? :=fun k=>by
       by_cases hk:k=q.b
       ·subst hk;rw[setRow_heap w q.b arr _ el (0,0) hb];show(w.heap.modify q.b (onCells (putCells (Value.int .i64) q.d (F zs).toArray)))[q.b]? =_;rw[Array.getElem?_modify,if_pos rfl,hb];rfl
       ·rw[setRow_other w q.b k _ hk];show(w.heap.modify q.b (onCells (putCells (Value.int .i64) q.d (F zs).toArray)))[k]? =_;rw[Array.getElem?_modify,if_neg (fun e:q.b=k=>hk e.symm)]
      refine S1.trans (S1.hr.Zy ⟨rfl,rfl,rfl,?_,fun k hk=>?_⟩)
      ·simp[World.setRow,putRow,mapBlock,Sort.ahead,grow]
      ·rw[heap_grow_old _ _ (by simpa [World.setRow,putRow,mapBlock,Sort.ahead]using hk),hset]
     ·cases hs
    ·cases hs
   ·cases hs
  ·cases hs
 ·injection hs with hs
  injection hs with e1 e2
  subst e1 e2;refine⟨hr,fun w0 p w H hG=>⟨Ab.refl _,(hC0 none 0 w).mono fun e w'=>?_⟩⟩
  rintro⟨rfl,rfl⟩
  exact⟨p,by rw[(hV0 p st.h.get .nils trivial).1];rfl,.refl H,(hV0 p st.h.get .nils trivial).2⟩
 ·cases hs
def vi(zs:List Int):List Int:=Lib.compact zs++List.replicate (zs.length-(Lib.compact zs).length) 0
def Dy(c m:Nat)(zs:List Int):AV:=.sl c m 0 (Lib.compact zs).length 1
theorem LO(zs:List Int):(Lib.compact zs).length≤zs.length:=by
 unfold Lib.compact Lib.compactUpTo;rw[List.length_map];refine Nat.le_trans (List.length_filter_le _ _) ?_;simp
theorem Dx{G:Env}:Vh Tryz.prog G 262 (Ni vi Dy id):=by
 refine S7 (R:=fun a cap zs=>.slice a (Lib.compact zs).length cap) (R0:=id) ⟨_,Tryz.func262,rfl,by decide⟩ (fun zs=>?_) (fun p h c m zs q C e hn h1 h2 h3 h4=>?_) (fun p h ks hw=>⟨rfl,hw⟩) (fun b o cap zs w hH hb hsz hcap hn=>?_) (fun a cap w=>?_)
 ·have:=LO zs;simp[vi];omega
 ·have:=LO zs;refine⟨?_,?_⟩
  ·unfold Dy;simp only[Qe,h1];simp
  ·unfold Dy;exact⟨C,e,h2,h3,by decide,by omega⟩
 ·refine(Any.slices_Compact_int xd b o cap zs w hH Qk hcap).mono fun e w'=>?_
  rintro⟨rfl,n,rfl⟩
  exact⟨rfl,n,#[],by rw[grow_empty];rfl⟩
 ·exact Any.slices_Compact_int_empty xd a cap w
end
end Go.Proofs.YthjgndgnmkiaiaaGreatDoor
