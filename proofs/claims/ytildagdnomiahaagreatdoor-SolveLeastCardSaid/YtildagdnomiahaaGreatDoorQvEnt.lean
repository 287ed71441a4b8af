/-
  The least of the shortest words, plainly.
-/
import Derived.Test.YtildagdnomiahaaGreatDoorQvCpN
set_option linter.unusedSectionVars false
set_option linter.unusedVariables false
namespace Go.Proofs.YtildagdnomiahaaGreatDoor
open Go Go.RowKit
section
variable {a:Au} {n:Nat} {out:List Int}

theorem Canon.reach(C:Canon a){Q:Nat→Prop}(h0:Q 0)(hs: ∀s c,Q s→s<a.n→c<a.K→Q (a.go s c)): ∀k,k<a.n→Q k:=by
 intro k
 induction k using Nat.strongRecOn with
 |_ k ih=>
  intro hk
  by_cases h:k=0
  ·subst h;exact h0
  ·obtain⟨i,c,h1,h2,h3,_⟩:=C.first k Qd hk;have:=hs i c (ih i h1 Qd) Qd h2
   rwa [h3]at this
def O2(a:Au)(n:Nat)(out:List Int)(s:Nat):List Int:=
 if cv out s<0∧((a.nx[s]?).getD []).any (fun t=>decide (cv out t.toNat=((n:Nat):Int)))=true then out.set s (((n+1:Nat)):Int)else out
def Wl(a:Au)(n:Nat)(out:List Int)(k:Nat):List Int:=(List.range k).foldl (O2 a n) out
def DE(a:Au):List Int:=a.acc.map fun b=>if b then 0 else-1
def Z4(a:Au)(k:Nat):List Int:=(List.range k).foldl (fun out n=>Wl a n out a.n) (DE a)
theorem yk{s:Nat}:(O2 a n out s).length=out.length:=by
 unfold O2;split
 ·exact List.length_set
 ·rfl
theorem Nh{a:Au}{n:Nat}{out:List Int}: ∀k,(Wl a n out k).length=out.length
 |0=>rfl
 |k+1=>by unfold Wl;rw[List.range_succ,List.foldl_append];exact yk.trans (Nh k)
theorem A3{k:Nat}:Wl a n out (k+1)=O2 a n (Wl a n out k) k:=by
 unfold Wl;rw[List.range_succ,List.foldl_append];rfl
theorem It{k:Nat}:Z4 a (k+1)=Wl a k (Z4 a k) a.n:=by
 unfold Z4;rw[List.range_succ,List.foldl_append];rfl
theorem Wm{a:Au}: ∀k,(Z4 a k).length=a.n
 |0=>by simp[Z4,DE]
 |k+1=>by rw[It,Nh,Wm k]
theorem yj{s:Nat}{B:Int}(hb:((n+1:Nat):Int)≤B)(h: ∀z∈out,-1≤z∧z≤B): ∀z∈O2 a n out s,-1≤z∧z≤B:=by
 unfold O2;split
 ·intro z hz;rcases List.mem_or_eq_of_mem_set hz with hz|rfl
  ·exact h z hz
  ·omega
 ·exact h
theorem DC{a:Au}{n:Nat}{out:List Int}{B:Int}(hb:((n+1:Nat):Int)≤B)(h: ∀z∈out,-1≤z∧z≤B): ∀k,∀z∈Wl a n out k,-1≤z∧z≤B
 |0=>h
 |k+1=>by rw[A3];exact yj hb (DC hb h k)
theorem DD{a:Au}{B:Int}: ∀k,((k:Nat):Int)≤B→ ∀z∈Z4 a k,-1≤z∧z≤B
 |0,hb=>by
  intro z hz;unfold Z4 DE at hz;obtain⟨b,_,rfl⟩:=List.mem_map.1 hz
  split<;>omega
 |k+1,hb=>by rw[It];exact DC hb (DD k Qd) _
def vv(p:Int→Bool):List Int→Nat→Option Nat
 |[],_=>none
 |z::l,i=>if p z then some i else vv p l (i+1)
def FL(a:Au)(far:List Int):Nat→Nat→Option (List Nat)
 |0,_=>none
 |f+1,s=>if cv far s≤0 then some []else match vv (fun t=>decide (cv far t.toNat=cv far s-1)) ((a.nx[s]?).getD []) 0 with
  |none=>none
  |some c=>match FL a far f (a.go s c)with
   |none=>none
   |some w=>some (c::w)
def UE(a:Au):Option (List Nat):=if a.acc.any id then FL a (Z4 a a.n) 401 0 else none
end
section

noncomputable section
mutual
def vt(h:Hp)(mp:Nat):Cr→List AV→Bool
 |.mk o a b g n l,cs=>match cs with
  |[.str o',.int .i64 a',.int .i64 b',.int .i64 g',.int .i64 n',ks]=>decide (o=o')&&(decide (a=a')&&(decide (b=b')&&(decide (g=g')&&(decide (n=n')&&(match ks with
   |.nils=>l.isEmpty
   |.sl c m off len 6=>match rowOf h c m with
    |some r=>Nat.beq len l.length&&(!Nat.beq c mp&&(Nat.ble (off+len *6) r.2.2.1.length&&(Nat.ble len 1000&&vr h mp l r.2.2.1 off)))
    |none=>false
   |_=>false)))))
  |_=>false
def vr(h:Hp)(mp:Nat):List Cr→List AV→Nat→Bool
 |[],_,_=>true
 |x::l,cells,off=>vt h mp x ((cells.drop off).take 6)&&vr h mp l cells (off+6)
end
theorem SO{h:Hp}{mp:Nat}: ∀{l:List Cr} {cells:List AV} {off:Nat},vr h mp l cells off=true→ ∀(i:Nat) (k:Cr),l[i]? =some k→vt h mp k ((cells.drop (off+i *6)).take 6)=true
 |[],_,_,_,i,k,hi=>by simp at hi
 |x::l,cells,off,he,i,k,hi=>by
  rw[vr,Bool.and_eq_true]at he
  cases i with
  |zero=>
   injection hi with hi
   subst hi;rw[Nat.zero_mul,Nat.add_zero];exact he.1
  |succ i=>
   have:=SO he.2 i k hi;rw[show off+(i+1) *6=off+6+i *6 by omega];exact this
def KA(h:Hp)(mp:Nat):W5:=fun c m l=>Y9 h c m l∧c≠mp
theorem uM{h:Hp}{mp:Nat}(x:Cr): ∀cs,vt h mp x cs=true→Yr (KA h mp) x cs:=by
 refine BE (M:=fun x=> ∀cs,vt h mp x cs=true→Yr (KA h mp) x cs) (fun o a b g n l ih cs he=>?_) x;unfold vt at he
 split at he
 ·rename_i o' a' b' g' n' ks;simp only[Bool.and_eq_true,decide_eq_true_eq]at he;obtain⟨rfl,rfl,rfl,rfl,rfl,he⟩:=he
  split at he
  ·rw[List.isEmpty_iff]at he;subst he;exact LQ
  ·rename_i c m off len
   split at he
   ·rename_i r hr;obtain⟨e,vs,cells,ro,ms⟩:=r;obtain⟨k1,k2⟩:=XR hr;simp only[Bool.and_eq_true,Bool.not_eq_true']at he;obtain⟨h1,h2,h3,h4,h5⟩:=he;have h1:=Nat.eq_of_beq_eq_true h1;subst h1;have h3:=Nat.le_of_ble_eq_true h3;have h4:=Nat.le_of_ble_eq_true h4;refine Yr.node (cells:=cells) ⟨⟨ro,e,vs,ms,k1,k2⟩,fun e=>by subst e;simp at h2⟩ Qd h3 fun i k hi=>?_;exact ih k (List.mem_of_getElem? hi) _ (SO h5 i k hi)
   ·cases he
  ·cases he
 ·cases he
structure Ce where
 c:Cr
 r:Bool
 s:Nat
def NB(x y:Cr):Cr:=.mk [97,110,100] 0 0 0 0 [x,y]
def VT:Cr:=.mk [116,114,117,101] 0 0 0 0 []
def Ce.ok(e:Ce):Bool:=match IU 200 (NB VT e.c) 0 with
 |some (m,s)=>Nat.beq s e.s&&(m.acc.any id==e.r&&((match UE m with
  |some _=>true
  |none=> !e.r)&&(Ja e.c 0&&Nat.ble (Xx e.c) 1900)))
 |none=>false
def SW(h:Hp)(mp:Nat)(cs:List AV):List Ce→Option Ce
 |[]=>none
 |e::l=>if vt h mp e.c cs then some e else SW h mp cs l
theorem Nb{h:Hp}{mp:Nat}{cs:List AV}: ∀{l:List Ce} {e:Ce},SW h mp cs l=some e→e∈l∧vt h mp e.c cs=true
 |[],e,he=>by cases he
 |x::l,e,he=>by
  rw[SW]at he
  split at he
  ·injection he with he
   subst he;exact⟨List.mem_cons_self ..,‹_›⟩
  ·obtain⟨h1,h2⟩:=Nb he;exact⟨List.mem_cons_of_mem _ h1,h2⟩
def NY(vs:Nat)(n:Int):Eb:=.row false [(2,vs,some [.int .i64 n,.bool false])]
def kj(T:TypeId)(st:St)(mp vs:Nat)(n:Int):Bool→AV×St
 |true=>(.ifc T (.sl st.n 0 0 0 3),⟨st.n+1,(st.h.set mp (NY vs n)).set st.n (.row false [(0,0,some [])])⟩)
 |false=>(.nili,⟨st.n,st.h.set mp (NY vs n)⟩)
def OG(T:TypeId)(tbl:List Ce):List AV→St→Option (AV×St):=fun args st=>match args with
 |[kv,.agg cs,.ptr mp 0 0]=>match J8 kv,st.h.get mp with
  |some 0,some (.row false [(2,vs,some [.int .i64 n,.bool false])])=>match SW st.h.get mp cs tbl with
   |some e=>if((e.s:Nat):Int)≤n∧n≤9223372036854775807∧xV kv=true then some (kj T st mp vs (n-((e.s:Nat):Int)) e.r)else none
   |none=>none
  |_,_=>none
 |_=>none
end
theorem Ce.jR{e:Ce}(h:e.ok=true): ∃m,Jl (NB VT e.c) 0 m e.s∧m.acc.any id=e.r∧(e.r=true→(UE m).isSome=true)∧Ja e.c 0=true∧Xx e.c≤1900:=by
 unfold Ce.ok at h
 split at h
 ·rename_i m s hm;simp only[Bool.and_eq_true,beq_iff_eq]at h;obtain⟨h1,h2,h3,h4,h5⟩:=h;have h1:=Nat.eq_of_beq_eq_true h1;subst h1;refine⟨m,Wu _ _ _ _ _ hm,h2,fun hr=>?_,h4,Nat.le_of_ble_eq_true h5⟩
  split at h3
  ·rename_i w hw;rw[hw];rfl
  ·rw[hr]at h3;cases h3
 ·cases h
def zD(T:TypeId)(st st':St)(mp:Nat)(n:Nat)(r:Bool)(v:AV):Prop:=Qu st'.h.get mp 0 [.int .i64 (n:Nat),.bool false]∧YA (fun c=>c=mp) st st'∧((r=false∧v=.nili)∨(r=true∧ ∃c m,v=.ifc T (.sl c m 0 0 3)∧Qu st'.h.get c m []∧st.n≤c))
theorem qW{P:Program}{G G0:Env}{f:FuncId}{T:TypeId}{tbl:List Ce}(hr:Real P f)(hG: ∀w0 p,NL w0 p G→NL w0 p G0)(hE:Ea P G0)(hm:P.follows .mixedOrders=true)(ht: ∀e∈tbl,e.ok=true)
  (hC: ∀(e:Ce) (m:Au) (st:St) (R:W5) (kv:AV) (cs:List AV) (mp n:Nat),Jl (NB VT e.c) 0 m e.s→m.acc.any id=e.r→(e.r=true→(UE m).isSome=true)→Ja e.c 0=true→Xx e.c≤1900→Qh st→X1 R st.h.get→Yr R e.c cs→(∀c m r,R c m r→c≠mp)→J8 kv=some 0→xV kv=true→Qu st.h.get mp 0 [.int .i64 (n:Nat),.bool false]→n≤9223372036854775807→e.s≤n→
   ∃v st',Ev P G0 f [kv,.agg cs,.ptr mp 0 0] st v st'∧zD T st st' mp (n-e.s) e.r v):W2 P G f (OG T tbl):=by
 intro args st v st' hs hf ha;unfold OG at hs
 split at hs
 ·rename_i kv cs mp
  split at hs
  ·rename_i vs n hkv hmp
   split at hs
   ·rename_i e he
    split at hs
    ·rename_i hle
     injection hs with hs
     obtain⟨h1,h2⟩:=Nb he;obtain⟨m,k1,k2,k3,k4,k5⟩:=Ce.jR (ht e h1);obtain⟨n,rfl⟩: ∃k:Nat,n=((k:Nat):Int):=⟨n.toNat,by omega⟩;have hR1:Qu st.h.get mp 0 [.int .i64 (n:Nat),.bool false]:=⟨vs,_,hmp,rfl⟩;obtain⟨v2,st2,⟨L,k,hev⟩,o1,o2,o3⟩:=hC e m st (KA st.h.get mp) kv cs mp n k1 k2 k3 k4 k5 hf (fun c m l h=>h.1) (uM e.c cs h2) (fun c m r h=>h.2) hkv hle.2.2 hR1 Qd Qd;refine⟨hr,fun w0 p w H hg=>?_⟩;obtain⟨_,hc⟩:=(H9 (Hz hm) hE L k f _ st v2 st2 hev hf ha).2 w0 p w H (hG w0 p hg);have hmpn:mp<st.n:=hR1.lt hf
     have hcast:((n:Nat):Int)-((e.s:Nat):Int)=((n-e.s:Nat):Int):=by omega
     rw[hcast]at hs

     have hget: ∀k,(st.h.set mp (NY vs ((n-e.s:Nat):Int))).get k=if k=mp then some (NY vs ((n-e.s:Nat):Int))else st.h.get k:=fun k=>Tr.YX ..
     have hst2: ∀k,k<st.n→k≠mp→st2.h.get k=st.h.get k:=fun k hk hne=>o2.J5 k hk hne
     have hg1:Grow st.h.get (st.h.set mp (NY vs ((n-e.s:Nat):Int))).get:=fun k C hC=>by
      rw[hget]
      by_cases e:k=mp
      ·subst e;rw[if_pos rfl];rw[hmp]at hC
       injection hC with hC
       subst hC;exact⟨_,rfl,List.prefix_refl _⟩
      ·rw[if_neg e];exact⟨C,hC,List.prefix_refl _⟩
     have hmt: ∀(p2:QY) (w':World) (l:List (Nat×Nat)) (h':Hp),Step w0 p w p2 st2.h.get w'→Y5 w0.heap.size (ZH st.n p p2 l) h' w' mp (NY vs ((n-e.s:Nat):Int)):=fun p2 w' l h' S=>by
      obtain⟨x,hx⟩:=H.Ws mp _ hmp 0 (Nat.zero_lt_one);refine Y5.Ud S.hr o1 (by rw[Ue hmpn,hx,S.le _ _ _ hx]) rfl fun j v v' e1 e2=>?_;rw[e1]at e2
      injection e2 with e2
      subst e2
      match j with
      |0=>injection e1 with e1;subst e1;exact⟨rfl,trivial,rfl⟩
      |1=>injection e1 with e1;subst e1;exact⟨rfl,trivial,rfl⟩
      |j+2=>simp at e1
     have hdO: ∀(h':Hp),Grow st.h.get h'→ ∀k C,st.h.get k=some C→ ∃C',h' k=some C'∧(exts C).length≤(exts C').length:=fun h' hg k C hC=>by
      obtain⟨C',e1,e2⟩:=hg k C hC;exact⟨C',e1,e2.length_le⟩
     have hlt: ∀k C,st.h.get k=some C→k<st.n:=fun k C hC=>by
      by_cases h:k<st.n
      ·exact h
      ·rw[hf k Qd]at hC;cases hC
     cases hb:e.r with
     |false=>
      rw[hb]at hs
      injection hs with e1 e2
      subst e1 e2
      obtain⟨_,rfl⟩:e.r=false∧v2=.nili:=o3.elim id fun h=>by rw[hb]at h;cases h.1
      refine⟨⟨Nat.le_refl _,hg1,fun c hcn _=>?_⟩,hc.mono fun e' w' hp=>?_⟩
      ·show(st.h.set mp _).get c=none;rw[hget,if_neg (fun e=>by subst e;rw[hmp]at hcn;cases hcn)];exact hcn
      ·obtain⟨p2,rfl,S,_⟩:=hp;refine⟨ZH st.n p p2 [],rfl,Step.forget hf H S (fun x hx=>by cases hx) List.nodup_nil (hdO _ hg1) (fun i x hx=>by simp at hx) fun k C hC=>?_,trivial⟩;have hC:(st.h.set mp (NY vs ((n-e.s:Nat):Int))).get k=some C:=hC;rw[hget]at hC
       by_cases e:k=mp
       ·subst e;rw[if_pos rfl]at hC
        injection hC with hC
        subst hC;exact hmt p2 w' [] _ S
       ·rw[if_neg e]at hC;exact Y5.stay hf H S hg1 hC (by rw[hst2 k (hlt k C hC) e];exact hC)
     |true=>
      rw[hb]at hs
      injection hs with e1 e2
      subst e1 e2;obtain⟨c1,m1,rfl,hr1,hc1⟩: ∃c m,v2=.ifc T (.sl c m 0 0 3)∧Qu st2.h.get c m []∧st.n≤c:=o3.elim (fun h=>by rw[hb]at h;cases h.1) fun h=>h.2
      have hget2: ∀k,((st.h.set mp (NY vs ((n-e.s:Nat):Int))).set st.n (.row false [(0,0,some [])])).get k=if k=st.n then some (.row false [(0,0,some [])])else(st.h.set mp (NY vs ((n-e.s:Nat):Int))).get k:=fun k=>Tr.YX ..
      have hg2:Grow st.h.get ((st.h.set mp (NY vs ((n-e.s:Nat):Int))).set st.n (.row false [(0,0,some [])])).get:=fun k C hC=>by
       rw[hget2,if_neg (by have:=hlt k C hC;omega)];exact hg1 k C hC
      refine⟨⟨Nat.le_succ _,hg2,fun c hcn ho=>?_⟩,hc.mono fun e' w' hp=>?_⟩
      ·have ho:c<st.n∨st.n+1≤c:=ho;show((st.h.set mp _).set st.n _).get c=none;rw[hget2,if_neg Qd,hget,if_neg (fun e=>by subst e;rw[hmp]at hcn;cases hcn)];exact hcn
      ·obtain⟨p2,rfl,S,_⟩:=hp;have hpn:ZH st.n p p2 [(c1,m1)] st.n 0=p2 c1 m1:=OY (i:=0) (x:=(c1,m1)) rfl;refine⟨ZH st.n p p2 [(c1,m1)],by simp only[Qe,hpn],Step.forget hf H S (fun x hx=>by rw[List.mem_singleton.1 hx];exact hc1) Qx (hdO _ hg2) (fun i x hx=>?_) fun k C hC=>?_,⟨_,0,(hget2 st.n).trans (if_pos rfl),rfl,by decide,Nat.le_refl _⟩⟩
       ·cases i with
        |zero=>exact⟨_,(hget2 st.n).trans (if_pos rfl),Nat.zero_lt_one⟩
        |succ i=>simp at hx
       ·have hC:((st.h.set mp (NY vs ((n-e.s:Nat):Int))).set st.n (.row false [(0,0,some [])])).get k=some C:=hC;rw[hget2,hget]at hC
        by_cases e0:k=st.n
        ·subst e0;rw[if_pos rfl]at hC
         injection hC with hC
         subst hC
         exact Y5.Ud S.hr hr1 hpn rfl fun j v v' e1 _=>by simp at e1
        ·rw[if_neg e0]at hC
         by_cases e:k=mp
         ·subst e;rw[if_pos rfl]at hC
          injection hC with hC
          subst hC;exact hmt p2 w' _ _ S
         ·rw[if_neg e]at hC;exact Y5.stay hf H S hg2 hC (by rw[hst2 k (hlt k C hC) e];exact hC)
    ·cases hs
   ·cases hs
  ·cases hs
 ·cases hs
end
section

def Uo{α:Type}:Nat→List α→List (α×AV)
 |_,[]=>[]
 |j,n::S=>(n,.int .i64 (j:Nat))::Uo (j+1) S
section
variable {α β:Type}
theorem A9: ∀(j:Nat) (S:List α) (n:α),Uo j (S++[n])=Uo j S++[(n,.int .i64 (j+S.length:Nat))]
 |j,[],n=>by simp[Uo]
 |j,x::S,n=>by
  rw[List.cons_append,Uo,Uo,A9 (j+1) S n,List.cons_append,List.length_cons,show j+1+S.length=j+(S.length+1) by omega]
theorem DO: ∀{j:Nat} {S:List α} {n:α} {v:AV},(n,v)∈Uo j S→ ∃i:Nat,S[i]? =some n∧v=.int .i64 (j+i:Nat)
 |j,[],n,v,h=>by cases h
 |j,x::S,n,v,h=>by
  rcases List.mem_cons.1 h with e|h
  ·injection e with e1 e2
   subst e1 e2;exact⟨0,rfl,rfl⟩
  ·obtain⟨i,h1,h2⟩:=DO h;exact⟨i+1,h1,by rw[h2];congr 2;omega⟩
theorem Df: ∀{j:Nat} {S:List α} {n:α},n∈S→ ∃v,(n,v)∈Uo j S
 |j,[],n,h=>by cases h
 |j,x::S,n,h=>by
  rcases List.mem_cons.1 h with rfl|h
  ·exact⟨_,List.mem_cons_self ..⟩
  ·obtain⟨v,hv⟩:=Df (j:=j+1) h;exact⟨v,List.mem_cons_of_mem _ hv⟩
theorem LP{S:List α}{n:α}(h:U9 (Uo 0 S) n=none):n∉S:=fun hm=>by
 obtain⟨v,hv⟩:=Df (j:=0) hm;exact LN h v hv
theorem LO{S:List α}{n:α}{v:AV}(h:U9 (Uo 0 S) n=some v): ∃i:Nat,S[i]? =some n∧v=.int .i64 (i:Nat):=by
 obtain⟨i,h1,h2⟩:=DO (KK h);exact⟨i,h1,by rw[h2,Nat.zero_add]⟩
theorem Vo.comp{P:Program}{t:TypeId}{key:α→AV}{z:AV}(T:Vo P t key z)(f:β→α)(hi: ∀x y,f x=f y→x=y):Vo P t (fun x=>key (f x)) z:=by
 obtain⟨kt,et,d,u1,u2,u3,u4,u5,u6⟩:=T.rule;exact⟨kt,et,d,u1,u2,u3,fun a=>u4 _,fun a i=>u5 _ i,fun a b v n es i=>⟨fun h=>(u6 (f a) (f b) v n es i).1 (congrArg f h),fun h=>(u6 (f a) (f b) v n es i).2 fun e=>h (hi _ _ e)⟩⟩
end
abbrev ZF(p:Nat×Nat):AV:=.agg [.int .i64 (p.1:Nat),.int .i64 (p.2:Nat)]
theorem Wk:Vo Tryz.prog 286 ZF (.int .i64 0):=uE.comp (fun p:Nat×Nat=>(((p.1:Nat):Int),((p.2:Nat):Int))) fun x y e=>by
 injection e with e1 e2
 exact Prod.ext Qd Qd
end
end Go.Proofs.YtildagdnomiahaaGreatDoor
