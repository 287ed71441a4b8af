/-
  Rows that lie there.
-/
import Derived.Test.YtiknomepbklibaaGreatDoorFzPoP
set_option linter.unusedSectionVars false
set_option linter.unusedSimpArgs false
set_option linter.unusedVariables false
section
namespace Go.Proofs.YtiknomepbklibaaGreatDoor
open Go Go.RowKit

def wW:AV→Bool
 |.sl _ _ _ _ _=>false
 |_=>true
theorem Lt{ks:AV}{n:Nat}(h:Y8 ks=some n):Qu ks=true:=by
 cases ks<;>first|rfl|cases h
abbrev Aq:=Nat→Nat→List AV→Prop
abbrev eo:=List (Nat×Nat×List AV)
def YJ(R:Aq)(h:Hp):Prop:= ∀c m l,R c m l→Y0 h c m l
theorem Mem.YJ{h0:Hp}{n0:Nat}{st:St}{M:eo}(h:Mem h0 n0 [] st M){R:Aq}(hR:Proofs.YtiknomepbklibaaGreatDoor.YJ R h0):Proofs.YtiknomepbklibaaGreatDoor.YJ R st.h.get:=fun c m l hr=>h.JG QA (hR c m l hr)
end Go.Proofs.YtiknomepbklibaaGreatDoor
end
section
namespace Go.Proofs.YtiknomepbklibaaGreatDoor
open Go Go.RowKit
variable {i:Nat}

inductive Cr where
 |mk (op:List Nat) (a b c n:Int) (kids:List Cr)
def Cr.op:Cr→List Nat
 |.mk o _ _ _ _ _=>o
def Cr.kids:Cr→List Cr
 |.mk _ _ _ _ _ l=>l
inductive XN(R:Aq):Cr→List AV→Prop
 |leaf {o:List Nat} {a b c n:Int} {ks:AV} (hs:Y8 ks=some 0) (ha:wW ks=true):XN R (.mk o a b c n []) [.str o,.int .i64 a,.int .i64 b,.int .i64 c,.int .i64 n,ks]
 |node {o:List Nat} {a b c n:Int} {kids:List Cr} {x m off:Nat} {cells:List AV} (hr:R x m cells) (hn:(kids.length:Int)≤9223372036854775807) (hl:off+kids.length *6≤cells.length)
  (hk: ∀(i:Nat) (k:Cr),kids[i]? =some k→XN R k ((cells.drop (off+i *6)).take 6)):XN R (.mk o a b c n kids) [.str o,.int .i64 a,.int .i64 b,.int .i64 c,.int .i64 n,.sl x m off kids.length 6]
inductive Zb(R:Aq):List Cr→AV→List (List AV)→Prop
 |none {kk:AV} (hs:Y8 kk=some 0) (ha:wW kk=true):Zb R [] kk []
 |row {kids:List Cr} {ls:List (List AV)} {c m off:Nat} {cells:List AV} (hr:R c m cells) (hn:(kids.length:Int)≤9223372036854775807) (hl:off+kids.length *6≤cells.length) (hls:ls.length=kids.length)
  (hcs: ∀(i:Nat) (cs:List AV),ls[i]? =some cs→cs=(cells.drop (off+i *6)).take 6) (hk: ∀(i:Nat) (k:Cr) (cs:List AV),kids[i]? =some k→ls[i]? =some cs→XN R k cs):Zb R kids (.sl c m off kids.length 6) ls
section
variable {R:Aq} {kids:List Cr} {kk:AV} {ls:List (List AV)}
theorem Zb.ln(K:Zb R kids kk ls):ls.length=kids.length:=by
 cases K with
 |none=>rfl
 |row _ _ _ h=>exact h
theorem Zb.len(K:Zb R kids kk ls):Y8 kk=some kids.length:=by
 cases K with
 |none hs ha=>exact hs
 |row=>rfl
theorem Zb.cell(K:Zb R kids kk ls):Qu kk=true:=Lt K.len
theorem Zb.Ew(K:Zb R kids kk ls):(kids.length:Int)≤9223372036854775807:=by
 cases K with
 |none=>simp
 |row _ h=>exact h
theorem Zb.get(K:Zb R kids kk ls){k:Cr}(hi:kids[i]? =some k): ∃cs,ls[i]? =some cs∧XN R k cs:=by
 have hlt:i<ls.length:=by rw[K.ln];exact(List.getElem?_eq_some_iff.1 hi).1
 refine⟨_,List.getElem?_eq_getElem hlt,?_⟩
 cases K with
 |none=>simp at hi
 |row _ _ _ _ _ hk=>exact hk i k _ hi (List.getElem?_eq_getElem hlt)
theorem Zb.r(K:Zb R kids kk ls){h:Hp}(hi:YJ R h):Ji h [] 6 ls kk:=by
 cases K with
 |none hs ha=>exact⟨hs,by simp,Lt hs,fun i cs hi=>by simp at hi,fun c m off n z e=>by subst e;cases ha⟩
 |row hr hn hl hls hcs hk=>
  rename_i c m off cells;refine⟨by rw[hls];rfl,by rw[hls];exact hn,rfl,fun i cs he=>?_,fun c' m' off' n' z e=>?_⟩
  ·have hlt:=(List.getElem?_eq_some_iff.1 he).1;have:=hcs i cs he;refine⟨c,m,off,cells,by rw[hls],by simp,hi _ _ _ hr,?_,this.symm⟩;rw[this,List.length_take,List.length_drop];omega
  ·injection e with e1 e2 e3 e4 e5
   subst e1 e2 e3 e4 e5;exact⟨by simp,cells,hi _ _ _ hr,hl⟩
end
theorem XN.Yt{R:Aq}{o:List Nat}{a b c n:Int}{kids:List Cr}{cs:List AV}(r:XN R (.mk o a b c n kids) cs):
  ∃kk ls,cs=[.str o,.int .i64 a,.int .i64 b,.int .i64 c,.int .i64 n,kk]∧Zb R kids kk ls:=by
 cases r with
 |leaf hs ha=>exact⟨_,[],rfl,.none hs ha⟩
 |node hr hn hl hk=>
  rename_i x m off cells
  have hlen:((List.range kids.length).map fun i=>(cells.drop (off+i *6)).take 6).length=kids.length:=by simp
  have hat: ∀(i:Nat) (cs:List AV),((List.range kids.length).map fun i=>(cells.drop (off+i *6)).take 6)[i]? =some cs→i<kids.length∧cs=(cells.drop (off+i *6)).take 6:=by
   intro i cs hi;rw[List.getElem?_map]at hi
   have hlt:i<kids.length:=by
    by_cases h:i<kids.length
    ·exact h
    ·rw[List.getElem?_eq_none (by simp;omega)]at hi;cases hi
   rw[List.getElem?_range hlt]at hi
   injection hi with hi
   exact⟨hlt,hi.symm⟩
  refine⟨_,(List.range kids.length).map fun i=>(cells.drop (off+i *6)).take 6,rfl,.row hr hn hl hlen (fun i cs hi=>(hat i cs hi).2) fun i k cs h1 h2=>?_⟩;rw[(hat i cs h2).2];exact hk i k h1
theorem XN.yr{R:Aq}{k:Cr}{cs:List AV}(r:XN R k cs): ∃o a b c n l kk ls,k=.mk o a b c n l∧cs=[.str o,.int .i64 a,.int .i64 b,.int .i64 c,.int .i64 n,kk]∧Zb R l kk ls:=by
 obtain⟨o,a,b,c,n,l⟩:=k;obtain⟨kk,ls,e,K⟩:=r.Yt;exact⟨o,a,b,c,n,l,kk,ls,rfl,e,K⟩
theorem XN.shape{R:Aq}{k:Cr}{o:List Nat}{a b c n:Int}{kk:AV}(r:XN R k [.str o,.int .i64 a,.int .i64 b,.int .i64 c,.int .i64 n,kk]): ∃l ls,k=.mk o a b c n l∧Zb R l kk ls:=by
 obtain⟨o1,a1,b1,c1,n1,l,kk',ls,e1,e,K⟩:=r.yr
 injection e with x1 e;injection e with x2 e;injection e with x3 e;injection e with x4 e;injection e with x5 e;injection e with x6 e
 injection x1 with x1;injection x2 with _ x2;injection x3 with _ x3;injection x4 with _ x4;injection x5 with _ x5
 subst x1 x2 x3 x4 x5 x6;exact⟨l,ls,e1,K⟩
mutual
def XE:Cr→Nat
 |.mk _ _ _ _ _ l=>Ze l+1
def Ze:List Cr→Nat
 |[]=>0
 |k::l=>XE k+Ze l
end
theorem RO(k:Cr):1≤XE k:=by cases k;rw[XE];omega
theorem qh{k:Cr}{l:List Cr}(h:k∈l):XE k≤Ze l:=by
 induction l with
 |nil=>cases h
 |cons x l ih=>
  rw[Ze];rcases List.mem_cons.1 h with rfl|h
  ·omega
  ·have:=ih h;omega
theorem OG{l:List Cr}{k:Cr}(h:l[i]? =some k):Ze (l.drop i)=XE k+Ze (l.drop (i+1)):=by
 obtain⟨h1,h2⟩:=List.getElem?_eq_some_iff.1 h;rw[List.drop_eq_getElem_cons h1,Ze,h2]
theorem I0{M:Cr→Prop}(h: ∀o a b g n kids,(∀k,k∈kids→M k)→M (.mk o a b g n kids))(k:Cr):M k:=by
 have: ∀n k,XE k≤n→M k:=by
  intro n
  induction n with
  |zero=>intro k hk;cases k;rw[XE]at hk;omega
  |succ n ih=>
   intro k hk
   cases k with
   |mk o a b g z kids=>
    rw[XE]at hk;exact h _ _ _ _ _ _ fun k hm=>ih k (by have:=qh hm;omega)
 exact this _ k (Nat.le_refl _)
theorem I1{l:List Cr}{k:Cr}(h:l[i]? =some k):k∈l:=List.mem_of_getElem? h
theorem WG{l:List Cr}(h:l.length≤i):l.drop i=[]:=List.drop_eq_nil_of_le h
def Ue(o:List Nat):List Nat×Int×Bool:=
 if [116,114,117,101]=o then([],0,true)else if [115,117,98]=o then([65,66],0,true)else if [115,105,110,103]=o then([65],0,true)else if [102,108,97,103]=o then([65],0,true)
 else if [110,111,110,101]=o then([65],0,true)else if [108,101,115,115]=o then([65,66],0,true)else if [112,108,117,115]=o then([65,66,78],0,true)else if [110,117,109]=o then([65,78],0,true)
 else if [117,110,105,111,110]=o then([65,66,67],0,true)else if [105,110,116,101,114]=o then([65,66,67],0,true)else if [109,105,110,117,115]=o then([65,66,67],0,true)
 else if [110,111,116]=o then([],1,true)else if [97,110,100]=o then([],2,true)else if [101,120]=o then([65],1,true)else([],0,false)
def Uj(h:List Nat)(k:Nat)(v n:Int):Bool:=if k∈h then decide (0≤v)&&decide (v<n)else decide (v=0)
mutual
def Jm : Cr → Int → Bool
  | .mk o a b g n l, m => (Ue o).2.2 && (decide (((l.length : Nat) : Int) = (Ue o).2.1) && (Uj (Ue o).1 78 n 21 && (if o = [101, 120] then decide (a = m) && (decide (m < 6) && (decide (b = 0) && (decide (g = 0) && Xe l (m + 1))))
    else Uj (Ue o).1 65 a m && (Uj (Ue o).1 66 b m && (Uj (Ue o).1 67 g m && Xe l m)))))
def Xe : List Cr → Int → Bool
  | [], _ => true
  | k :: l, m => Jm k m && Xe l m
end
theorem I2{l:List Cr}{m:Int}(h:Xe l m=true){k:Cr}(hk:k∈l):Jm k m=true:=by
 induction l with
 |nil=>cases hk
 |cons x l ih=>
  rw[Xe,Bool.and_eq_true]at h;rcases List.mem_cons.1 hk with rfl|hk
  ·exact h.1
  ·exact ih h.2 hk
end Go.Proofs.YtiknomepbklibaaGreatDoor
end
section
namespace Go.Proofs.YtiknomepbklibaaGreatDoor
open Go Go.RowKit

theorem Hz{a b:Au}(h:a.tr=b.tr){w:List Nat}(hw:BV a.K w):BV b.K w:=by unfold Au.K at *;rw[←h];exact hw
structure Ub(a m:Au):Prop where
 canon:Canon m
 like:XO m a 0 0
 tr:m.tr=a.tr
theorem Ub.uniq{a b m p:Au}(h1:Ub a m)(h2:Ub b p)(ht:b.tr=a.tr)(hl:XO a b 0 0):m=p:=
 Rx h1.canon h2.canon (by rw[h1.tr,h2.tr,ht]) fun w hw=>by
  have ha:=Hz h1.tr hw;rw[h1.like w hw,hl w ha];exact(h2.like w (Hz (ht.symm.trans h2.tr.symm) ha)).symm
theorem XO.refl(a:Au)(s:Nat):XO a a s s:=fun _ _=>rfl
def Au.neg(a:Au):Au:=⟨a.tr,a.acc.map (!·),a.nx⟩
theorem Sx(a:Au):a.neg.n=a.n:=by simp[Au.neg,Au.n]
theorem jo{a:Au}(W:Zr a):Zr a.neg:=
 ⟨W.tr,by rw[Sx];exact W.pos,by rw[Sx];exact W.most,by rw[Sx];exact W.len,fun r hr=>by rw[Sx];exact W.row r hr⟩
def QS (o : List Nat) (n s a b d : Nat) : Nat :=
  if s = 30 then 30
  else if o = [115, 117, 98] then (if a ≤ b then 0 else 30)
  else if o = [110, 111, 110, 101] then (if a = 0 then 0 else 30)
  else if o = [117, 110, 105, 111, 110] then (if d = a ||| b then 0 else 30)
  else if o = [105, 110, 116, 101, 114] then (if d = a &&& b then 0 else 30)
  else if o = [109, 105, 110, 117, 115] then (if d = a - b then 0 else 30)
  else if o = [102, 108, 97, 103] then (if s = 1 ∨ a = 1 then 1 else 30)
  else if o = [115, 105, 110, 103] then (if 1 < s + a then 30 else s + a)
  else if o = [110, 117, 109] then (if s = n + 1 ∧ a = 0 then s else if n < s ∨ (s < n ∧ a = 1) ∨ (s = n ∧ a = 0) then 30 else s + 1)
  else if o = [108, 101, 115, 115] then (if a + b = 0 then s else if s = 0 ∧ a = 1 ∧ b = 0 then 1 else if s = 1 ∧ a = 0 ∧ b = 1 then 2 else 30)
  else if o = [112, 108, 117, 115] then
    (if s = n + 1 ∨ (s = 0 ∧ a = 0) then (if a + b = 0 then s else 30)
     else if s = 0 ∧ n = 0 then (if b = 1 then 1 else 30)
     else if s = 0 then (if b = 0 then 1 else 30)
     else if a = 1 ∨ (s < n ∧ b = 1) ∨ (s = n ∧ b = 0) then 30 else s + 1)
  else 0
def ZZ(o:List Nat)(n s:Nat):Bool:=
 if s=30 then false
 else if o=[102,108,97,103]∨o=[115,105,110,103]then decide (s=1)
 else if o=[108,101,115,115]then decide (s=2)
 else if o=[112,108,117,115]∨o=[110,117,109]then decide (s=n+1)
 else true
def BN(l v:Nat):Nat:=l/2^v % 2
def Hh(o:List Nat)(n a b d s l:Nat):Nat:=min (QS o n s (BN l a) (BN l b) (BN l d)) 30
def Xf(o:List Nat)(a b d n k:Nat):Au:=⟨k,(List.range 31).map (ZZ o n),(List.range 31).map fun s=>(List.range (2^k)).map fun l=>((Hh o n a b d s l:Nat):Int)⟩
section
variable {o:List Nat} {a b d n k:Nat}
theorem BO:(Xf o a b d n k).n=31:=by simp[Xf,Au.n]
theorem uZ{s l:Nat}(hs:s<31)(hl:l<2^k):(Xf o a b d n k).go s l=Hh o n a b d s l:=by
 unfold Au.go Xf;simp only[List.getElem?_map,List.getElem?_range hs,Option.map_some,Option.getD_some,List.getElem?_range hl,Int.toNat_natCast]
theorem uY{s:Nat}(hs:s<31):(Xf o a b d n k).ok s=ZZ o n s:=by
 unfold Au.ok Xf;simp only[List.getElem?_map,List.getElem?_range hs,Option.map_some,Option.getD_some]
theorem Ln(s l:Nat):Hh o n a b d s l<31:=by unfold Hh;omega
theorem DS(hk:k≤6):Zr (Xf o a b d n k):=by
 refine⟨hk,by rw[BO];decide,by rw[BO];decide,by simp[Xf,Au.n],fun r hr=>?_⟩;obtain⟨s,_,rfl⟩:=List.mem_map.1 hr;refine⟨by simp[Xf,Au.K],fun z hz=>?_⟩;obtain⟨l,_,rfl⟩:=List.mem_map.1 hz;have:=Ln (o:=o) (n:=n) (a:=a) (b:=b) (d:=d) s l;rw[BO];omega
end
inductive JN:Cr→Nat→Au→Nat→Prop
 |atom {o:List Nat} {a b d n:Int} {k:Nat} {m:Au} (h1:o≠[110,111,116]) (h2:o≠[97,110,100]) (h3:o≠[101,120]) (h:Ub (Xf o a.toNat b.toNat d.toNat n.toNat k) m):JN (.mk o a b d n []) k m m.n
 |not {o:List Nat} {a b d n:Int} {x:Cr} {k s:Nat} {p m:Au} (ho:o=[110,111,116]) (hx:JN x k p s) (h:Ub p.neg m):JN (.mk o a b d n [x]) k m (s+m.n)
 |and {o:List Nat} {a b d n:Int} {x y:Cr} {k s t:Nat} {p q r m:Au} {lp:List (Nat×Nat)} (ho:o=[97,110,100]) (hx:JN x k p s) (hy:JN y k q t) (hb:Kl p q 8 lp r) (h:Ub r m):JN (.mk o a b d n [x,y]) k m (s+t+m.n)
 |ex {o:List Nat} {a b d n:Int} {x:Cr} {k s:Nat} {p r m:Au} {acc:List Bool} {L:List (List Int)} (ho:o=[101,120]) (hx:JN x (k+1) p s) (hc:Az p k acc) (hm:UA (Uo p k) [0] (anyS acc) L r) (ht:r.tr=k) (h:Ub r m):JN (.mk o a b d n [x]) k m (s+m.n)
section
variable {c x y:Cr} {k s t:Nat} {m p q:Au}
theorem JN.least(h:JN c k m s): ∃r,Ub r m:=by cases h<;>exact⟨_,‹Ub _ m›⟩
theorem JN.canon(h:JN c k m s):Canon m:=by obtain⟨r,h⟩:=h.least;exact h.canon
theorem JN.wf(h:JN c k m s):Zr m:=h.canon.wf
theorem JN.ge(h:JN c k m s):m.n≤s:=by cases h<;>omega
theorem JN.pos(h:JN c k m s):1≤s:=Nat.le_trans h.wf.pos h.ge
theorem JN.tr(h:JN c k m s):m.tr=k:=by
 induction h with
 |atom _ _ _ h=>exact h.tr
 |not _ hx h ih=>exact h.tr.trans ih
 |and _ hx hy hb h ih1 ih2=>exact h.tr.trans (hb.2.trans ih1)
 |ex _ hx hc hm ht h ih=>exact h.tr.trans ht
theorem JN.uniq(h:JN c k m s): ∀{m':Au} {s':Nat},JN c k m' s'→m=m'∧s=s':=by
 induction h with
 |atom h1 h2 h3 h=>
  intro m' s' h'
  cases h' with
  |atom _ _ _ h'=>
   have e:=h.uniq h' rfl (XO.refl _ _);subst e;exact⟨rfl,rfl⟩
 |not ho hx h ih=>
  intro m' s' h'
  cases h' with
  |not ho' hx' h'=>
   obtain⟨rfl,rfl⟩:=ih hx';have e:=h.uniq h' rfl (XO.refl _ _);subst e;exact⟨rfl,rfl⟩
  |ex ho'=>rw[ho]at ho';simp at ho'
 |and ho hx hy hb h ih1 ih2=>
  intro m' s' h'
  cases h' with
  |and ho' hx' hy' hb' h'=>
   obtain⟨rfl,rfl⟩:=ih1 hx';obtain⟨rfl,rfl⟩:=ih2 hy'
   have e:=h.uniq h' (by rw[hb.2,hb'.2]) fun w hw=>by
    have hp:=Hz hb.2 hw;rw[hb.Mb hp,hb'.Mb hp]
   subst e;exact⟨rfl,rfl⟩
 |ex ho hx hc hm ht h ih=>
  intro m' s' h'
  cases h' with
  |not ho'=>rw[ho]at ho';simp at ho'
  |ex ho' hx' hc' hm' ht' h'=>
   obtain⟨rfl,rfl⟩:=ih hx';obtain rfl:=hc.uniq hc'
   have e:=h.uniq h' (by rw[ht,ht']) fun w hw=>by
    rw[hm.Mb hw,hm'.Mb (Hz (ht.trans ht'.symm) hw)]
   subst e;exact⟨rfl,rfl⟩
end
section
variable {α β:Type} {δ:α→Nat→α} {δ':β→Nat→β} {s0:α} {pr:α→Bool} {pr':β→Bool} {l:List α} {m:Au}
end
section
variable {x y:Cr} {k s:Nat} {m:Au}
end
end Go.Proofs.YtiknomepbklibaaGreatDoor
end
