/-
  solve.found as a rule of the reckoner: what a closed formula's automaton tells.
-/
import Derived.Test.YtildagdnomiahaaGreatDoorQgFgt
import Derived.Test.YtildagdnomiahaaGreatDoorQgCpN
namespace Go.Proofs.YtildagdnomiahaaGreatDoor
open Go Go.RowKit
set_option linter.unusedVariables false
set_option linter.unusedSectionVars false

noncomputable section
mutual
def xE(h:Hp)(mp:Nat):Cr→List AV→Bool
 |.mk o a b g n l,cs=>match cs with
  |[.str o',.int .i64 a',.int .i64 b',.int .i64 g',.int .i64 n',ks]=>decide (o=o')&&(decide (a=a')&&(decide (b=b')&&(decide (g=g')&&(decide (n=n')&&(match ks with
   |.nils=>l.isEmpty
   |.sl c m off len 6=>match rowOf h c m with
    |some r=>Nat.beq len l.length&&(!Nat.beq c mp&&(Nat.ble (off+len *6) r.2.2.1.length&&(Nat.ble len 1000&&yl h mp l r.2.2.1 off)))
    |none=>false
   |_=>false)))))
  |_=>false
def yl(h:Hp)(mp:Nat):List Cr→List AV→Nat→Bool
 |[],_,_=>true
 |x::l,cells,off=>xE h mp x ((cells.drop off).take 6)&&yl h mp l cells (off+6)
end
theorem Re{h:Hp}{mp:Nat}: ∀{l:List Cr} {cells:List AV} {off:Nat},yl h mp l cells off=true→ ∀(i:Nat) (k:Cr),l[i]? =some k→xE h mp k ((cells.drop (off+i *6)).take 6)=true
 |[],_,_,_,i,k,hi=>by simp at hi
 |x::l,cells,off,he,i,k,hi=>by
  rw[yl,Bool.and_eq_true]at he
  cases i with
  |zero=>
   injection hi with hi
   subst hi;rw[Nat.zero_mul,Nat.add_zero];exact he.1
  |succ i=>
   have:=Re he.2 i k hi;rw[show off+(i+1) *6=off+6+i *6 by omega];exact this
def O7(h:Hp)(mp:Nat):Vl:=fun c m l=>UU h c m l∧c≠mp
theorem xD{h:Hp}{mp:Nat}(x:Cr): ∀cs,xE h mp x cs=true→Uy (O7 h mp) x cs:=by
 refine Le (M:=fun x=> ∀cs,xE h mp x cs=true→Uy (O7 h mp) x cs) (fun o a b g n l ih cs he=>?_) x;unfold xE at he
 split at he
 ·rename_i o' a' b' g' n' ks;simp only[Bool.and_eq_true,decide_eq_true_eq]at he;obtain⟨rfl,rfl,rfl,rfl,rfl,he⟩:=he
  split at he
  ·rw[List.isEmpty_iff]at he;subst he;exact WL
  ·rename_i c m off len
   split at he
   ·rename_i r hr;obtain⟨e,vs,cells,ro,ms⟩:=r;obtain⟨k1,k2⟩:=Vy hr;simp only[Bool.and_eq_true,Bool.not_eq_true']at he;obtain⟨h1,h2,h3,h4,h5⟩:=he;have h1:=Nat.eq_of_beq_eq_true h1;subst h1;have h3:=Nat.le_of_ble_eq_true h3;have h4:=Nat.le_of_ble_eq_true h4;refine Uy.node (cells:=cells) ⟨⟨ro,e,vs,ms,k1,k2⟩,fun e=>by subst e;simp at h2⟩ Qe h3 fun i k hi=>?_;exact ih k (List.mem_of_getElem? hi) _ (Re h5 i k hi)
   ·cases he
  ·cases he
 ·cases he
structure CO where
 c:Cr
 r:Bool
 s:Nat
def Lz(x y:Cr):Cr:=.mk [97,110,100] 0 0 0 0 [x,y]
def Vs:Cr:=.mk [116,114,117,101] 0 0 0 0 []
def CO.ok(e:CO):Bool:=match Lk 200 (Lz Vs e.c) 0 with
 |some (m,s)=>Nat.beq s e.s&&(m.acc.any id==e.r&&((match Zs m with
  |some _=>true
  |none=> !e.r)&&(J1 e.c 0&&Nat.ble (VN e.c) 1900)))
 |none=>false
def Rk(h:Hp)(mp:Nat)(cs:List AV):List CO→Option CO
 |[]=>none
 |e::l=>if xE h mp e.c cs then some e else Rk h mp cs l
theorem KN{h:Hp}{mp:Nat}{cs:List AV}: ∀{l:List CO} {e:CO},Rk h mp cs l=some e→e∈l∧xE h mp e.c cs=true
 |[],e,he=>by cases he
 |x::l,e,he=>by
  rw[Rk]at he
  split at he
  ·injection he with he
   subst he;exact⟨List.mem_cons_self ..,‹_›⟩
  ·obtain⟨h1,h2⟩:=KN he;exact⟨List.mem_cons_of_mem _ h1,h2⟩
def MC(vs:Nat)(n:Int):AB:=.row false [(2,vs,some [.int .i64 n,.bool false])]
def w8(T:TypeId)(st:St)(mp vs:Nat)(n:Int):Bool→AV×St
 |true=>(.ifc T (.sl st.n 0 0 0 3),⟨st.n+1,(st.h.set mp (MC vs n)).set st.n (.row false [(0,0,some [])])⟩)
 |false=>(.nili,⟨st.n,st.h.set mp (MC vs n)⟩)
def GR(T:TypeId)(tbl:List CO):List AV→St→Option (AV×St):=fun args st=>match args with
 |[kv,.agg cs,.ptr mp 0 0]=>match JU kv,st.h.get mp with
  |some 0,some (.row false [(2,vs,some [.int .i64 n,.bool false])])=>match Rk st.h.get mp cs tbl with
   |some e=>if((e.s:Nat):Int)≤n∧n≤9223372036854775807∧uR kv=true then some (w8 T st mp vs (n-((e.s:Nat):Int)) e.r)else none
   |none=>none
  |_,_=>none
 |_=>none
end
theorem CO.wh{e:CO}(h:e.ok=true): ∃m,Jp (Lz Vs e.c) 0 m e.s∧m.acc.any id=e.r∧(e.r=true→(Zs m).isSome=true)∧J1 e.c 0=true∧VN e.c≤1900:=by
 unfold CO.ok at h
 split at h
 ·rename_i m s hm;simp only[Bool.and_eq_true,beq_iff_eq]at h;obtain⟨h1,h2,h3,h4,h5⟩:=h;have h1:=Nat.eq_of_beq_eq_true h1;subst h1;refine⟨m,WZ _ _ _ _ _ hm,h2,fun hr=>?_,h4,Nat.le_of_ble_eq_true h5⟩
  split at h3
  ·rename_i w hw;rw[hw];rfl
  ·rw[hr]at h3;cases h3
 ·cases h
def jC(T:TypeId)(st st':St)(mp:Nat)(n:Nat)(r:Bool)(v:AV):Prop:=Qw st'.h.get mp 0 [.int .i64 (n:Nat),.bool false]∧YI (fun c=>c=mp) st st'∧((r=false∧v=.nili)∨(r=true∧ ∃c m,v=.ifc T (.sl c m 0 0 3)∧Qw st'.h.get c m []∧st.n≤c))
theorem TG{P:Program}{G G0:Env}{f:FuncId}{T:TypeId}{tbl:List CO}(hr:Real P f)(hG: ∀w0 p,Oi w0 p G→Oi w0 p G0)(hE:ER P G0)(hm:P.follows .mixedOrders=true)(ht: ∀e∈tbl,e.ok=true)
  (hC: ∀(e:CO) (m:Au) (st:St) (R:Vl) (kv:AV) (cs:List AV) (mp n:Nat),Jp (Lz Vs e.c) 0 m e.s→m.acc.any id=e.r→(e.r=true→(Zs m).isSome=true)→J1 e.c 0=true→VN e.c≤1900→Qg st→ZL R st.h.get→Uy R e.c cs→(∀c m r,R c m r→c≠mp)→JU kv=some 0→uR kv=true→Qw st.h.get mp 0 [.int .i64 (n:Nat),.bool false]→n≤9223372036854775807→e.s≤n→
   ∃v st',Ev P G0 f [kv,.agg cs,.ptr mp 0 0] st v st'∧jC T st st' mp (n-e.s) e.r v):HT P G f (GR T tbl):=by
 intro args st v st' hs hf ha;unfold GR at hs
 split at hs
 ·rename_i kv cs mp
  split at hs
  ·rename_i vs n hkv hmp
   split at hs
   ·rename_i e he
    split at hs
    ·rename_i hle
     injection hs with hs
     obtain⟨h1,h2⟩:=KN he;obtain⟨m,k1,k2,k3,k4,k5⟩:=CO.wh (ht e h1);obtain⟨n,rfl⟩: ∃k:Nat,n=((k:Nat):Int):=⟨n.toNat,by omega⟩;have hR1:Qw st.h.get mp 0 [.int .i64 (n:Nat),.bool false]:=⟨vs,_,hmp,rfl⟩;obtain⟨v2,st2,⟨L,k,hev⟩,o1,o2,o3⟩:=hC e m st (O7 st.h.get mp) kv cs mp n k1 k2 k3 k4 k5 hf (fun c m l h=>h.1) (xD e.c cs h2) (fun c m r h=>h.2) hkv hle.2.2 hR1 Qe Qe;refine⟨hr,fun w0 p w H hg=>?_⟩;obtain⟨_,hc⟩:=(IB (IA hm) hE L k f _ st v2 st2 hev hf ha).2 w0 p w H (hG w0 p hg);have hmpn:mp<st.n:=hR1.lt hf
     have hcast:((n:Nat):Int)-((e.s:Nat):Int)=((n-e.s:Nat):Int):=by omega
     rw[hcast]at hs

     have hget: ∀k,(st.h.set mp (MC vs ((n-e.s:Nat):Int))).get k=if k=mp then some (MC vs ((n-e.s:Nat):Int))else st.h.get k:=fun k=>Tr.Z3 ..
     have hst2: ∀k,k<st.n→k≠mp→st2.h.get k=st.h.get k:=fun k hk hne=>o2.J0 k hk hne
     have hg1:Grow st.h.get (st.h.set mp (MC vs ((n-e.s:Nat):Int))).get:=fun k C hC=>by
      rw[hget]
      by_cases e:k=mp
      ·subst e;rw[if_pos rfl];rw[hmp]at hC
       injection hC with hC
       subst hC;exact⟨_,rfl,List.prefix_refl _⟩
      ·rw[if_neg e];exact⟨C,hC,List.prefix_refl _⟩
     have hmt: ∀(p2:QX) (w':World) (l:List (Nat×Nat)) (h':Hp),Step w0 p w p2 st2.h.get w'→Xb w0.heap.size (X4 st.n p p2 l) h' w' mp (MC vs ((n-e.s:Nat):Int)):=fun p2 w' l h' S=>by
      obtain⟨x,hx⟩:=H.Wg mp _ hmp 0 (Nat.zero_lt_one);refine Xb.Uc S.hr o1 (by rw[Ui hmpn,hx,S.le _ _ _ hx]) rfl fun j v v' e1 e2=>?_;rw[e1]at e2
      injection e2 with e2
      subst e2
      match j with
      |0=>injection e1 with e1;subst e1;exact⟨rfl,trivial,rfl⟩
      |1=>injection e1 with e1;subst e1;exact⟨rfl,trivial,rfl⟩
      |j+2=>simp at e1
     have hdO: ∀(h':Hp),Grow st.h.get h'→ ∀k C,st.h.get k=some C→ ∃C',h' k=some C'∧(exts C).length≤(exts C').length:=fun h' hg k C hC=>by
      obtain⟨C',e1,e2⟩:=hg k C hC;exact⟨C',e1,e2.length_le⟩
     have hlt: ∀k C,st.h.get k=some C→k<st.n:=fun k C hC=>by
      by_cases h:k<st.n
      ·exact h
      ·rw[hf k Qe]at hC;cases hC
     cases hb:e.r with
     |false=>
      rw[hb]at hs
      injection hs with e1 e2
      subst e1 e2
      obtain⟨_,rfl⟩:e.r=false∧v2=.nili:=o3.elim id fun h=>by rw[hb]at h;cases h.1
      refine⟨⟨Nat.le_refl _,hg1,fun c hcn _=>?_⟩,hc.mono fun e' w' hp=>?_⟩
      ·show(st.h.set mp _).get c=none;rw[hget,if_neg (fun e=>by subst e;rw[hmp]at hcn;cases hcn)];exact hcn
      ·obtain⟨p2,rfl,S,_⟩:=hp;refine⟨X4 st.n p p2 [],rfl,Step.forget hf H S (fun x hx=>by cases hx) List.nodup_nil (hdO _ hg1) (fun i x hx=>by simp at hx) fun k C hC=>?_,trivial⟩;have hC:(st.h.set mp (MC vs ((n-e.s:Nat):Int))).get k=some C:=hC;rw[hget]at hC
       by_cases e:k=mp
       ·subst e;rw[if_pos rfl]at hC
        injection hC with hC
        subst hC;exact hmt p2 w' [] _ S
       ·rw[if_neg e]at hC;exact Xb.stay hf H S hg1 hC (by rw[hst2 k (hlt k C hC) e];exact hC)
     |true=>
      rw[hb]at hs
      injection hs with e1 e2
      subst e1 e2;obtain⟨c1,m1,rfl,hr1,hc1⟩: ∃c m,v2=.ifc T (.sl c m 0 0 3)∧Qw st2.h.get c m []∧st.n≤c:=o3.elim (fun h=>by rw[hb]at h;cases h.1) fun h=>h.2
      have hget2: ∀k,((st.h.set mp (MC vs ((n-e.s:Nat):Int))).set st.n (.row false [(0,0,some [])])).get k=if k=st.n then some (.row false [(0,0,some [])])else(st.h.set mp (MC vs ((n-e.s:Nat):Int))).get k:=fun k=>Tr.Z3 ..
      have hg2:Grow st.h.get ((st.h.set mp (MC vs ((n-e.s:Nat):Int))).set st.n (.row false [(0,0,some [])])).get:=fun k C hC=>by
       rw[hget2,if_neg (by have:=hlt k C hC;omega)];exact hg1 k C hC
      refine⟨⟨Nat.le_succ _,hg2,fun c hcn ho=>?_⟩,hc.mono fun e' w' hp=>?_⟩
      ·have ho:c<st.n∨st.n+1≤c:=ho;show((st.h.set mp _).set st.n _).get c=none;rw[hget2,if_neg Qe,hget,if_neg (fun e=>by subst e;rw[hmp]at hcn;cases hcn)];exact hcn
      ·obtain⟨p2,rfl,S,_⟩:=hp;have hpn:X4 st.n p p2 [(c1,m1)] st.n 0=p2 c1 m1:=S5 (i:=0) (x:=(c1,m1)) rfl;refine⟨X4 st.n p p2 [(c1,m1)],by simp only[Qd,hpn],Step.forget hf H S (fun x hx=>by rw[List.mem_singleton.1 hx];exact hc1) Qx (hdO _ hg2) (fun i x hx=>?_) fun k C hC=>?_,⟨_,0,(hget2 st.n).trans (if_pos rfl),rfl,by decide,Nat.le_refl _⟩⟩
       ·cases i with
        |zero=>exact⟨_,(hget2 st.n).trans (if_pos rfl),Nat.zero_lt_one⟩
        |succ i=>simp at hx
       ·have hC:((st.h.set mp (MC vs ((n-e.s:Nat):Int))).set st.n (.row false [(0,0,some [])])).get k=some C:=hC;rw[hget2,hget]at hC
        by_cases e0:k=st.n
        ·subst e0;rw[if_pos rfl]at hC
         injection hC with hC
         subst hC
         exact Xb.Uc S.hr hr1 hpn rfl fun j v v' e1 _=>by simp at e1
        ·rw[if_neg e0]at hC
         by_cases e:k=mp
         ·subst e;rw[if_pos rfl]at hC
          injection hC with hC
          subst hC;exact hmt p2 w' _ _ S
         ·rw[if_neg e]at hC;exact Xb.stay hf H S hg2 hC (by rw[hst2 k (hlt k C hC) e];exact hC)
    ·cases hs
   ·cases hs
  ·cases hs
 ·cases hs
end Go.Proofs.YtildagdnomiahaaGreatDoor
