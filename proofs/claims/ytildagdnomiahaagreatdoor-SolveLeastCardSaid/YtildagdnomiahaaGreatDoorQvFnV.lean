/-
  solve.found as a rule of the reckoner, where there are variables: the least values are told.
-/
import Derived.Test.YtildagdnomiahaaGreatDoorQvLsu
namespace Go.Proofs.YtildagdnomiahaaGreatDoor
open Go Go.RowKit
set_option linter.unusedVariables false
set_option linter.unusedSectionVars false

def Zp:List (Nat×Nat)→List (List Int)→List AV
 |_,[]=>[]
 |xs,[]::ls=>.nils::Zp xs ls
 |x::xs,(z::l)::ls=>.sl x.1 x.2 0 (l.length+1) 1::Zp xs ls
 |[],(z::l)::ls=>.nils::Zp [] ls
def Zq:List (List Int)→List (List AV)
 |[]=>[]
 |[]::ls=>Zq ls
 |(z::l)::ls=>(z::l).map (fun z=>AV.int .i64 z)::Zq ls
def VR:List NM→List AV→List AV
 |d::ds,k::ks=>.str d.1:: .int .i64 d.2.1::k::VR ds ks
 |_,_=>[]
def Vv(xs:List (Nat×Nat))(ds:List NM)(sets:List (List Int)):List (List AV):=Zq sets++[VR ds (Zp xs sets)]
theorem XK: ∀(sets:List (List Int)) (xs:List (Nat×Nat)),(Zp xs sets).length=sets.length
 |[],xs=>by cases xs<;>rfl
 |[]::ls,xs=>by cases xs<;>(rw[Zp,List.length_cons,XK ls];rfl)
 |(z::l)::ls,[]=>by rw[Zp,List.length_cons,XK ls];rfl
 |(z::l)::ls,x::xs=>by rw[Zp,List.length_cons,XK ls];rfl
theorem OE: ∀(ds:List NM) (ks:List AV),ds.length=ks.length→(VR ds ks).length=ds.length *3
 |[],[],_=>rfl
 |d::ds,k::ks,h=>by
  simp only[List.length_cons,Nat.add_right_cancel_iff]at h;rw[VR,List.length_cons,List.length_cons,List.length_cons,OE ds ks h,List.length_cons];omega
 |[],k::ks,h=>by simp at h
 |d::ds,[],h=>by simp at h
section
variable {h':Hp} {P' p2:QY}
def vZ(h':Hp)(P' p2:QY)(v v':AV):Prop:=Qe P' v'=Qe p2 v∧WF h' v'∧Qw v'=true
theorem HX: ∀(sets:List (List Int)) (xs xn:List (Nat×Nat)),xs.length=(Zq sets).length→xn.length=(Zq sets).length→
  (∀(t:Nat) (x y:Nat×Nat) (r:List AV),xs[t]? =some x→xn[t]? =some y→(Zq sets)[t]? =some r→P' y.1 y.2=p2 x.1 x.2∧ ∃C,h' y.1=some C∧(exts C)[y.2]? =some r.length)→
  ∀(j:Nat) (v v':AV),(Zp xs sets)[j]? =some v→(Zp xn sets)[j]? =some v'→vZ h' P' p2 v v'
 |[],xs,xn,_,_,_,j,v,v',hv,_=>by cases xs<;>simp[Zp]at hv
 |[]::ls,xs,xn,h1,h2,hP,j,v,v',hv,hv'=>by
  rw[show Zp xs ([]::ls)=.nils::Zp xs ls by cases xs<;>rfl]at hv
  rw[show Zp xn ([]::ls)=.nils::Zp xn ls by cases xn<;>rfl]at hv'
  cases j with
  |zero=>
   injection hv with hv;injection hv' with hv'
   subst hv hv';exact⟨rfl,trivial,rfl⟩
  |succ j=>exact HX ls xs xn h1 h2 hP j v v' hv hv'
 |(z::l)::ls,[],xn,h1,h2,hP,j,v,v',hv,hv'=>by simp[Zq]at h1
 |(z::l)::ls,x::xs,[],h1,h2,hP,j,v,v',hv,hv'=>by simp[Zq]at h2
 |(z::l)::ls,x::xs,y::xn,h1,h2,hP,j,v,v',hv,hv'=>by
  simp only[Zq,List.length_cons,Nat.add_right_cancel_iff]at h1 h2
  cases j with
  |zero=>
   injection hv with hv;injection hv' with hv'
   subst hv hv';obtain⟨e,C,hC,he⟩:=hP 0 x y _ rfl rfl rfl;refine⟨by simp only[Qe,e],⟨C,_,hC,he,Nat.one_pos,?_⟩,rfl⟩;simp
  |succ j=>exact HX ls xs xn h1 h2 (fun t a b r ha hb hr=>hP (t+1) a b r ha hb hr) j v v' hv hv'
theorem OD: ∀(ds:List NM) (ks kn:List AV),ks.length=kn.length→(∀(j:Nat) (v v':AV),ks[j]? =some v→kn[j]? =some v'→vZ h' P' p2 v v')→
  ∀(j:Nat) (v v':AV),(VR ds ks)[j]? =some v→(VR ds kn)[j]? =some v'→(∀s,v=.str s→Bytes s)→vZ h' P' p2 v v'
 |[],ks,kn,_,_,j,v,v',hv,_,_=>by cases ks<;>simp[VR]at hv
 |d::ds,[],kn,_,_,j,v,v',hv,_,_=>by simp[VR]at hv
 |d::ds,k::ks,[],h,_,j,v,v',hv,_,_=>by simp at h
 |d::ds,k::ks,k'::kn,h,hr,j,v,v',hv,hv',hb=>by
  match j with
  |0=>
   injection hv with hv;injection hv' with hv'
   subst hv hv';exact⟨rfl,hb _ rfl,rfl⟩
  |1=>
   injection hv with hv;injection hv' with hv'
   subst hv hv';exact⟨rfl,trivial,rfl⟩
  |2=>
   injection hv with hv;injection hv' with hv'
   subst hv hv';exact hr 0 _ _ rfl rfl
  |j+3=>
   simp only[List.length_cons,Nat.add_right_cancel_iff]at h;exact OD ds ks kn h (fun j v v' a b=>hr (j+1) v v' a b) j v v' hv hv' hb
end
noncomputable def YU:Tr Eb→Nat→List (List AV)→Tr Eb
 |h,_,[]=>h
 |h,n,r::rs=>YU (h.set n (.row false [(r.length,0,some r)])) (n+1) rs
theorem Xn: ∀(rs:List (List AV)) (h:Tr Eb) (n k:Nat),(YU h n rs).get k=if n≤k∧k<n+rs.length then(rs[k-n]?).map (fun r=>Eb.row false [(r.length,0,some r)])else h.get k
 |[],h,n,k=>by rw[YU,if_neg Qx]
 |r::rs,h,n,k=>by
  rw[YU,Xn rs,List.length_cons,Tr.YX]
  by_cases h1:k=n
  ·subst h1;rw[if_neg Qd,if_pos rfl,if_pos Qd,Nat.sub_self];rfl
  ·by_cases h2:n+1≤k∧k<n+1+rs.length
   ·rw[if_pos h2,if_pos Qd,show k-n=(k-(n+1))+1 by omega,List.getElem?_cons_succ]
   ·rw[if_neg h2,if_neg h1,if_neg Qd]
theorem Y5.iq{w0 w':World}{p2 P':QY}{st2:St}{h':Hp}(R2:HR w0 p2 st2.h.get w'){c m k vs:Nat}{cs cs':List AV}(h2:Qu st2.h.get c m cs)(hp:P' k 0=p2 c m)(hlen:cs'.length=cs.length)
  (hv: ∀(j:Nat) (v v':AV),cs[j]? =some v→cs'[j]? =some v'→(∀s,v=.str s→Bytes s)→vZ h' P' p2 v v'):Y5 w0.heap.size P' h' w' k (.row false [(cs'.length,vs,some cs')]):=by
 refine Y5.Ud R2 h2 hp hlen fun j v v' e1 e2=>hv j v v' e1 e2 fun s e=>?_;subst e;obtain⟨vs2,ms,a1,a2⟩:=h2;obtain⟨q,arr,el,d1,d2,d3,d4,d5,d6⟩:=(show NF w0.heap.size p2 st2.h.get w' c false ms from R2.cls c _ a1).mem m _ _ _ a2;exact((d6 cs rfl).2 j _ e1).2.1
structure O7 where
 ds:List NM
 c:Cr
 sets:List (List Int)
 s:Nat
def gV(ds:List NM):Cr:=gC ((ds.length:Nat):Int) ds ds.length
def O7.ok(e:O7):Bool:=match IU 200 (NC (gV e.ds) e.c) e.ds.length with
 |some (m,s)=>Nat.beq s e.s&&(match UE m with
  |some w=>decide (e.sets=(List.range e.ds.length).map fun i=>UK w i w.length)&&(Nat.ble w.length 1000&&(w.all (Nat.ble · 64)&&(Ja e.c ((e.ds.length:Nat):Int)&&(Ja (gV e.ds) ((e.ds.length:Nat):Int)&&(Nat.ble (Xx e.c) 1900&&Nat.ble (Xx (gV e.ds)) 50)))))
  |none=>false)
 |none=>false
def kU(cells:List AV):Nat→Nat→Option (List NM)
 |_,0=>some []
 |off,n+1=>match(cells.drop off).take 3 with
  |[.str a,.int .i64 o,.int .i64 p]=>(kU cells (off+3) n).map fun l=>(a,o,p)::l
  |_=>none
theorem yy{cells:List AV}: ∀{n off:Nat} {ds:List NM},kU cells off n=some ds→ds.length=n∧ ∀(i:Nat) (d:NM),ds[i]? =some d→(cells.drop (off+i *3)).take 3=fP d
 |0,off,ds,h=>by
  injection h with h
  subst h;exact⟨rfl,fun i d hi=>by simp at hi⟩
 |n+1,off,ds,h=>by
  unfold kU at h
  split at h
  ·rename_i a o p he;obtain⟨l,hl,h⟩:=Option.map_eq_some_iff.1 h;subst h;obtain⟨h1,h2⟩:=yy hl;refine⟨by simp[h1],fun i d hi=>?_⟩
   cases i with
   |zero=>
    injection hi with hi
    subst hi;rw[Nat.zero_mul,Nat.add_zero,he];rfl
   |succ i=>
    have:=h2 i d hi;rw[show off+(i+1) *3=off+3+i *3 by omega];exact this
  ·cases h
noncomputable def SX(h:Hp)(mp:Nat)(cs:List AV)(ds:List NM):List O7→Option O7
 |[]=>none
 |e::l=>if decide (e.ds=ds)&&vt h mp e.c cs then some e else SX h mp cs ds l
theorem Nc{h:Hp}{mp:Nat}{cs:List AV}{ds:List NM}: ∀{l:List O7} {e:O7},SX h mp cs ds l=some e→e∈l∧e.ds=ds∧vt h mp e.c cs=true
 |[],e,he=>by cases he
 |x::l,e,he=>by
  rw[SX]at he
  split at he
  ·rename_i hx
   injection he with he
   subst he;rw[Bool.and_eq_true,decide_eq_true_eq]at hx;exact⟨List.mem_cons_self ..,hx.1,hx.2⟩
  ·obtain⟨h1,h2⟩:=Nc he;exact⟨List.mem_cons_of_mem _ h1,h2⟩
def NX(n k:Nat):List (Nat×Nat):=(List.range k).map fun i=>(n+i,0)
noncomputable def C6(T:TypeId)(tbl:List O7):List AV→St→Option (AV×St):=fun args st=>match args with
 |[.sl cv mv ov nv 3,.agg cs,.ptr mp 0 0]=>match rowOf st.h.get cv mv,st.h.get mp with
  |some r,some (.row false [(2,vs,some [.int .i64 n,.bool false])])=>match kU r.2.2.1 ov nv with
   |some ds=>match SX st.h.get mp cs ds tbl with
    |some e=>if((e.s:Nat):Int)≤n∧n≤9223372036854775807∧cv≠mp∧ov+nv *3≤r.2.2.1.length∧nv≤1000 then
     some (.ifc T (.sl (st.n+(Zq e.sets).length) 0 0 nv 3),⟨st.n+((Zq e.sets).length+1),YU (st.h.set mp (NY vs (n-((e.s:Nat):Int)))) st.n (Vv (NX st.n (Zq e.sets).length) ds e.sets)⟩)else none
    |none=>none
   |none=>none
  |_,_=>none
 |_=>none
def fH(T:TypeId)(st st':St)(mp n:Nat)(ds:List NM)(sets:List (List Int))(v:AV):Prop:=Qu st'.h.get mp 0 [.int .i64 (n:Nat),.bool false]∧YA (fun c=>c=mp) st st'∧ ∃xs y,xs.length=(Zq sets).length∧v=.ifc T (.sl y.1 y.2 0 ds.length 3)∧
 (∀(i:Nat) (x:Nat×Nat) (r:List AV),(xs++[y])[i]? =some x→(Vv xs ds sets)[i]? =some r→st.n≤x.1∧Qu st'.h.get x.1 x.2 r)∧((xs++[y]).map Prod.fst).Nodup
theorem Lc: ∀(ds:List NM) (ks kn:List AV),ks.length=kn.length→(VR ds ks).length=(VR ds kn).length
 |[],ks,kn,_=>by cases ks<;>cases kn<;>rfl
 |d::ds,[],[],_=>rfl
 |d::ds,[],k::kn,h=>by simp at h
 |d::ds,k::ks,[],h=>by simp at h
 |d::ds,k::ks,k'::kn,h=>by
  simp only[List.length_cons,Nat.add_right_cancel_iff]at h;simp only[VR,List.length_cons,Lc ds ks kn h]
theorem HY: ∀(sets:List (List Int)) (r:List AV),r∈Zq sets→ ∀v∈r,∃z,v=.int .i64 z
 |[],r,h=>by cases h
 |[]::ls,r,h=>HY ls r h
 |(z::l)::ls,r,h=>by
  rcases List.mem_cons.1 h with rfl|h
  ·intro v hv;obtain⟨z,_,rfl⟩:=List.mem_map.1 hv;exact⟨z,rfl⟩
  ·exact HY ls r h
theorem O7.jR{e:O7}(h:e.ok=true): ∃m w,Jl (NC (gV e.ds) e.c) e.ds.length m e.s∧UE m=some w∧e.sets=((List.range e.ds.length).map fun i=>UK w i w.length)∧w.length≤1000∧(∀y∈w,y≤64)∧Ja e.c ((e.ds.length:Nat):Int)=true∧Ja (gV e.ds) ((e.ds.length:Nat):Int)=true∧Xx e.c≤1900∧Xx (gV e.ds)≤50:=by
 unfold O7.ok at h
 split at h
 ·rename_i m s hm;rw[Bool.and_eq_true]at h;obtain⟨h1,h2⟩:=h;have h1:=Nat.eq_of_beq_eq_true h1;subst h1
  split at h2
  ·rename_i w hw;simp only[Bool.and_eq_true,decide_eq_true_eq,List.all_eq_true]at h2;obtain⟨k1,k2,k3,k4,k5,k6,k7⟩:=h2;exact⟨m,w,Wu _ _ _ _ _ hm,hw,k1,Nat.le_of_ble_eq_true k2,fun y hy=>Nat.le_of_ble_eq_true (k3 y hy),k4,k5,Nat.le_of_ble_eq_true k6,Nat.le_of_ble_eq_true k7⟩
  ·cases h2
 ·cases h
theorem ua{n k t:Nat}(h:t<k):(NX n k)[t]? =some (n+t,0):=by unfold NX;rw[List.getElem?_map,List.getElem?_range h];rfl
theorem jZ(n k:Nat):(NX n k).length=k:=by simp[NX]
theorem qV{P:Program}{G G0:Env}{f:FuncId}{T:TypeId}{tbl:List O7}(hr:Real P f)(hG: ∀w0 p,NL w0 p G→NL w0 p G0)(hE:Ea P G0)(hm:P.follows .mixedOrders=true)(ht: ∀e∈tbl,e.ok=true)
  (hC: ∀(e:O7) (m:Au) (w:List Nat) (st:St) (R:W5) (kv:AV) (cs:List AV) (mp n:Nat),Jl (NC (gV e.ds) e.c) e.ds.length m e.s→UE m=some w→e.sets=((List.range e.ds.length).map fun i=>UK w i w.length)→w.length≤1000→(∀y∈w,y≤64)→Ja e.c ((e.ds.length:Nat):Int)=true→Ja (gV e.ds) ((e.ds.length:Nat):Int)=true→Xx e.c≤1900→Xx (gV e.ds)≤50→Qh st→X1 R st.h.get→Yr R e.c cs→(∀c m r,R c m r→c≠mp)→Jg st.h.get [] 3 (e.ds.map fP) kv→(∀c m o n y,kv=.sl c m o n y→c≠mp)→Qu st.h.get mp 0 [.int .i64 (n:Nat),.bool false]→n≤9223372036854775807→e.s≤n→e∈tbl→
   ∃v st',Ev P G0 f [kv,.agg cs,.ptr mp 0 0] st v st'∧fH T st st' mp (n-e.s) e.ds e.sets v):W2 P G f (C6 T tbl):=by
 intro args st v st' hs hf ha;unfold C6 at hs
 split at hs
 ·rename_i cv mv ov nv cs mp
  split at hs
  ·rename_i r vs n hrow hmp
   split at hs
   ·rename_i ds hds
    split at hs
    ·rename_i e he
     split at hs
     ·rename_i hle;obtain⟨hle1,hle2,hcm,hfit,hnv⟩:=hle
      injection hs with hs
      injection hs with e1 e2
      subst e1 e2;obtain⟨h1,hde,h2⟩:=Nc he;subst hde;obtain⟨m,w,k1,k2,k3,k4,k5,k6,k7,k8,k9⟩:=O7.jR (ht e h1);obtain⟨n,rfl⟩: ∃k:Nat,n=((k:Nat):Int):=⟨n.toNat,by omega⟩;have hR1:Qu st.h.get mp 0 [.int .i64 (n:Nat),.bool false]:=⟨vs,_,hmp,rfl⟩;obtain⟨ev,vs2,cells,ro,ms⟩:=r;obtain⟨r1,r2⟩:=XR hrow;have hRV:Y9 st.h.get cv mv cells:=⟨ro,ev,vs2,ms,r1,r2⟩;obtain⟨d1,d2⟩:=yy hds
      have hV:Jg st.h.get [] 3 (e.ds.map fP) (.sl cv mv ov nv 3):=by
       refine⟨by rw[List.length_map,d1];rfl,by rw[List.length_map,d1];omega,rfl,fun i cs' hi=>?_,fun c' m' o' n' z' e'=>?_⟩
       ·rw[List.getElem?_map]at hi;obtain⟨d,hd,hi⟩:=Option.map_eq_some_iff.1 hi;subst hi;have hlt:=(List.getElem?_eq_some_iff.1 hd).1;refine⟨cv,mv,ov,cells,by rw[List.length_map,d1],by simp,hRV,?_,d2 i d hd⟩;have hfit:ov+nv *3≤cells.length:=hfit;have h3:(fP d).length=3:=rfl;omega
       ·injection e' with e1 e2 e3 e4 e5
        subst e1 e2 e3 e4 e5;exact⟨by simp,cells,hRV,hfit⟩
      obtain⟨v2,st2,⟨L,k,hev⟩,o1,o2,xs,y,hxl,rfl,hrw,hnd⟩:=hC e m w st (KA st.h.get mp) (.sl cv mv ov nv 3) cs mp n k1 k2 k3 k4 k5 k6 k7 k8 k9 hf (fun c m l h=>h.1) (uM e.c cs h2) (fun c m r h=>h.2) hV (fun c m o n y e=>by injection e with e;rw[←e];exact hcm) hR1 Qd Qd h1;refine⟨hr,fun w0 p W H hg=>?_⟩;obtain⟨_,hc⟩:=(H9 (Hz hm) hE L k f _ st _ st2 hev hf ha).2 w0 p W H (hG w0 p hg);have hmpn:mp<st.n:=hR1.lt hf;rw[show((n:Nat):Int)-((e.s:Nat):Int)=((n-e.s:Nat):Int) by omega];generalize hLn:(Zq e.sets).length=Ln at hxl ⊢
      have hrl: ∀xs,(Vv xs e.ds e.sets).length=Ln+1:=fun xs=>by rw[Vv,List.length_append,hLn];rfl
      generalize hrn:Vv (NX st.n Ln) e.ds e.sets=rn
      have hrnl:rn.length=Ln+1:=by rw[←hrn];exact hrl _
      have hget: ∀k,(st.h.set mp (NY vs ((n-e.s:Nat):Int))).get k=if k=mp then some (NY vs ((n-e.s:Nat):Int))else st.h.get k:=fun k=>Tr.YX ..
      have hlt: ∀k C,st.h.get k=some C→k<st.n:=fun k C hC=>by
       by_cases h:k<st.n
       ·exact h
       ·rw[hf k Qd]at hC;cases hC
      have hgO: ∀k,k<st.n→(YU (st.h.set mp (NY vs ((n-e.s:Nat):Int))) st.n rn).get k=if k=mp then some (NY vs ((n-e.s:Nat):Int))else st.h.get k:=fun k hk=>by rw[Xn,if_neg Qd,hget]
      have hgN: ∀i r,rn[i]? =some r→(YU (st.h.set mp (NY vs ((n-e.s:Nat):Int))) st.n rn).get (st.n+i)=some (.row false [(r.length,0,some r)]):=fun i r hi=>by
       have hil:=(List.getElem?_eq_some_iff.1 hi).1;rw[Xn,if_pos Qd,show st.n+i-st.n=i by omega,hi];rfl
      have hg2:Grow st.h.get (YU (st.h.set mp (NY vs ((n-e.s:Nat):Int))) st.n rn).get:=fun k C hC=>by
       have hk:=hlt k C hC;rw[hgO k hk]
       by_cases e:k=mp
       ·subst e;rw[if_pos rfl];rw[hmp]at hC
        injection hC with hC
        subst hC;exact⟨_,rfl,List.prefix_refl _⟩
       ·rw[if_neg e];exact⟨C,hC,List.prefix_refl _⟩
      refine⟨⟨Nat.le_add_right _ _,hg2,fun c hcn ho=>?_⟩,hc.mono fun e' w' hp=>?_⟩
      ·have ho:c<st.n∨st.n+(Ln+1)≤c:=ho;show(YU _ _ _).get c=none;rw[Xn,if_neg (by rw[hrnl];omega),hget,if_neg (fun e=>by subst e;rw[hmp]at hcn;cases hcn)];exact hcn
      obtain⟨p2,rfl,S,_⟩:=hp
      have hll:(xs++[y]).length=Ln+1:=by rw[List.length_append,hxl];rfl
      have hrow2: ∀(i:Nat) (x:Nat×Nat),(xs++[y])[i]? =some x→ ∃r,(Vv xs e.ds e.sets)[i]? =some r∧st.n≤x.1∧Qu st2.h.get x.1 x.2 r:=fun i x hi=>by
       have hil:=(List.getElem?_eq_some_iff.1 hi).1;obtain⟨r,hr⟩: ∃r,(Vv xs e.ds e.sets)[i]? =some r:=⟨_,List.getElem?_eq_getElem (by rw[hrl];omega)⟩;exact⟨r,hr,hrw i x r hi hr⟩
      have hpN: ∀(i:Nat) (x:Nat×Nat),(xs++[y])[i]? =some x→ZH st.n p p2 (xs++[y]) (st.n+i) 0=p2 x.1 x.2:=fun i x hi=>OY hi
      have hy:(xs++[y])[Ln]? =some y:=by rw[List.getElem?_append_right Qd,hxl,Nat.sub_self];rfl
      have hlast:rn[Ln]? =some (VR e.ds (Zp (NX st.n Ln) e.sets)):=by rw[←hrn,Vv,List.getElem?_append_right Qd,hLn,Nat.sub_self];rfl
      have hdl:e.ds.length=e.sets.length:=by rw[k3];simp
      have hren: ∀(t:Nat) (x z:Nat×Nat) (r:List AV),xs[t]? =some x→(NX st.n Ln)[t]? =some z→(Zq e.sets)[t]? =some r→ZH st.n p p2 (xs++[y]) z.1 z.2=p2 x.1 x.2∧ ∃C,(YU (st.h.set mp (NY vs ((n-e.s:Nat):Int))) st.n rn).get z.1=some C∧(exts C)[z.2]? =some r.length:=fun t x z r hx hz hr=>by
       have htl:=(List.getElem?_eq_some_iff.1 hx).1;rw[ua Qd]at hz
       injection hz with hz
       subst hz;refine⟨hpN t x (by rw[List.getElem?_append_left htl];exact hx),_,hgN t r (by rw[←hrn,Vv,List.getElem?_append_left Qd];exact hr),rfl⟩
      refine⟨ZH st.n p p2 (xs++[y]),?_,Step.forget hf H S (fun x hx=>?_) hnd (fun k C hC=>?_) (fun i x hx=>?_) fun k C hC=>?_,?_⟩
      ·have:=hpN Ln y hy;simp only[Qe,this,d1]
      ·obtain⟨i,hi⟩:=List.getElem?_of_mem hx;obtain⟨_,_,h,_⟩:=hrow2 i x hi;exact h
      ·obtain⟨C',a1,a2⟩:=hg2 k C hC;exact⟨C',a1,a2.length_le⟩
      ·have hil:=(List.getElem?_eq_some_iff.1 hx).1;exact⟨_,hgN i rn[i] (List.getElem?_eq_getElem Qd),Nat.zero_lt_one⟩
      ·by_cases hk:k<st.n
       ·have hC:(YU (st.h.set mp (NY vs ((n-e.s:Nat):Int))) st.n rn).get k=some C:=hC;rw[hgO k hk]at hC
        by_cases e0:k=mp
        ·subst e0;rw[if_pos rfl]at hC
         injection hC with hC
         subst hC;obtain⟨x,hx⟩:=H.Ws k _ hmp 0 (Nat.zero_lt_one);refine Y5.Ud S.hr o1 (by rw[Ue hk,hx,S.le _ _ _ hx]) rfl fun j v v' e1 e2=>?_;rw[e1]at e2
         injection e2 with e2
         subst e2
         match j with
         |0=>injection e1 with e1;subst e1;exact⟨rfl,trivial,rfl⟩
         |1=>injection e1 with e1;subst e1;exact⟨rfl,trivial,rfl⟩
         |j+2=>simp at e1
        ·rw[if_neg e0]at hC;exact Y5.stay hf H S hg2 hC (by rw[o2.J5 k (hlt k C hC) e0];exact hC)
       ·have hC0:(YU (st.h.set mp (NY vs ((n-e.s:Nat):Int))) st.n rn).get k=some C:=hC;rw[Xn]at hC0
        by_cases hin:st.n≤k∧k<st.n+rn.length
        ·obtain⟨i,rfl⟩: ∃i,k=st.n+i:=⟨k-st.n,by omega⟩;rw[if_pos hin,show st.n+i-st.n=i by omega]at hC0;obtain⟨r,hr,hC0⟩:=Option.map_eq_some_iff.1 hC0;subst hC0;have hil:=(List.getElem?_eq_some_iff.1 hr).1;obtain⟨x,hx⟩:=YL (xs++[y]) i Qd;obtain⟨r2,hr2,_,hrow⟩:=hrow2 i x hx;rw[←hrn]at hr
         by_cases hiL:i<Ln
         ·rw[Vv,List.getElem?_append_left Qd]at hr hr2;rw[hr]at hr2
          injection hr2 with hr2
          subst hr2;refine Y5.iq S.hr hrow (hpN i x hx) rfl fun j v v' e1 e2 _=>?_;rw[e1]at e2
          injection e2 with e2
          subst e2;obtain⟨z,rfl⟩:=HY e.sets r (List.mem_of_getElem? hr) v (List.mem_of_getElem? e1);exact⟨rfl,trivial,rfl⟩
         ·have hiL:i=Ln:=by omega
          subst hiL;rw[Vv,List.getElem?_append_right Qd,hLn,Nat.sub_self]at hr hr2
          injection hr with hr
          injection hr2 with hr2
          subst hr hr2
          have hsl:(Zp xs e.sets).length=(Zp (NX st.n i) e.sets).length:=by rw[XK,XK]
          exact Y5.iq S.hr hrow (hpN i x hx) (Lc _ _ _ hsl.symm) fun j v v' e1 e2 hb=>OD e.ds _ _ hsl (HX e.sets xs (NX st.n i) Qd (by rw[jZ];omega) hren) j v v' e1 e2 hb
        ·rw[if_neg hin,hget,if_neg Qd,hf k Qd]at hC0;cases hC0
      ·refine⟨_,_,hgN Ln _ hlast,rfl,by decide,?_⟩;rw[OE _ _ (by rw[XK];exact hdl),d1];omega
     ·cases hs
    ·cases hs
   ·cases hs
  ·cases hs
 ·cases hs
end Go.Proofs.YtildagdnomiahaaGreatDoor
