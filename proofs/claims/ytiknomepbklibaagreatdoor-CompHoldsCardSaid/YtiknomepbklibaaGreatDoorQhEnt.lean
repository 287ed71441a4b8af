/-
  Rows that lie there.
-/
import Derived.Test.YtiknomepbklibaaGreatDoorQhAuB
set_option linter.unusedSectionVars false
set_option linter.unusedSimpArgs false
set_option linter.unusedVariables false
namespace Go.Proofs.YtiknomepbklibaaGreatDoor
section
open Go Go.RowKit

def aZ:AV→Bool
 |.sl _ _ _ _ _=>false
 |_=>true
theorem LU{ks:AV}{n:Nat}(h:YE ks=some n):Qs ks=true:=by
 cases ks<;>first|rfl|cases h
abbrev Ee:=Nat→Nat→List AV→Prop
abbrev fu:=List (Nat×Nat×List AV)
def Y8(R:Ee)(h:Hp):Prop:= ∀c m l,R c m l→Yu h c m l
theorem Mem.Y8{h0:Hp}{n0:Nat}{st:St}{M:fu}(h:Mem h0 n0 [] st M){R:Ee}(hR:Proofs.YtiknomepbklibaaGreatDoor.Y8 R h0):Proofs.YtiknomepbklibaaGreatDoor.Y8 R st.h.get:=fun c m l hr=>h.JH Q7 (hR c m l hr)
end
section
open Go Go.RowKit
variable {cs:List AV} {i:Nat}

inductive Cr where
 |mk (op:List Nat) (a b c n:Int) (kids:List Cr)
def Cr.op:Cr→List Nat
 |.mk o _ _ _ _ _=>o
def Cr.kids:Cr→List Cr
 |.mk _ _ _ _ _ l=>l
inductive ZO(R:Ee):Cr→List AV→Prop
 |leaf {o:List Nat} {a b c n:Int} {ks:AV} (hs:YE ks=some 0) (ha:aZ ks=true):ZO R (.mk o a b c n []) [.str o,.int .i64 a,.int .i64 b,.int .i64 c,.int .i64 n,ks]
 |node {o:List Nat} {a b c n:Int} {kids:List Cr} {x m off:Nat} {cells:List AV} (hr:R x m cells) (hn:(kids.length:Int)≤9223372036854775807) (hl:off+kids.length *6≤cells.length)
  (hk: ∀(i:Nat) (k:Cr),kids[i]? =some k→ZO R k ((cells.drop (off+i *6)).take 6)):ZO R (.mk o a b c n kids) [.str o,.int .i64 a,.int .i64 b,.int .i64 c,.int .i64 n,.sl x m off kids.length 6]
theorem ZO.mono{R R':Ee}(hl: ∀c m l,R c m l→R' c m l){t:Cr}(r:ZO R t cs):ZO R' t cs:=by
 induction r with
 |leaf hs ha=>exact .leaf hs ha
 |node hr hn hl' hk ih=>exact .node (hl _ _ _ hr) hn hl' ih
inductive Ze(R:Ee):List Cr→AV→List (List AV)→Prop
 |none {kk:AV} (hs:YE kk=some 0) (ha:aZ kk=true):Ze R [] kk []
 |row {kids:List Cr} {ls:List (List AV)} {c m off:Nat} {cells:List AV} (hr:R c m cells) (hn:(kids.length:Int)≤9223372036854775807) (hl:off+kids.length *6≤cells.length) (hls:ls.length=kids.length)
  (hcs: ∀(i:Nat) (cs:List AV),ls[i]? =some cs→cs=(cells.drop (off+i *6)).take 6) (hk: ∀(i:Nat) (k:Cr) (cs:List AV),kids[i]? =some k→ls[i]? =some cs→ZO R k cs):Ze R kids (.sl c m off kids.length 6) ls
section
variable {R:Ee} {kids:List Cr} {kk:AV} {ls:List (List AV)}
theorem Ze.ln(K:Ze R kids kk ls):ls.length=kids.length:=by
 cases K with
 |none=>rfl
 |row _ _ _ h=>exact h
theorem Ze.len(K:Ze R kids kk ls):YE kk=some kids.length:=by
 cases K with
 |none hs ha=>exact hs
 |row=>rfl
theorem Ze.cell(K:Ze R kids kk ls):Qs kk=true:=LU K.len
theorem Ze.Wv(K:Ze R kids kk ls):(kids.length:Int)≤9223372036854775807:=by
 cases K with
 |none=>simp
 |row _ h=>exact h
theorem Ze.get(K:Ze R kids kk ls){k:Cr}(hi:kids[i]? =some k): ∃cs,ls[i]? =some cs∧ZO R k cs:=by
 have hlt:i<ls.length:=by rw[K.ln];exact(List.getElem?_eq_some_iff.1 hi).1
 refine⟨_,List.getElem?_eq_getElem hlt,?_⟩
 cases K with
 |none=>simp at hi
 |row _ _ _ _ _ hk=>exact hk i k _ hi (List.getElem?_eq_getElem hlt)
theorem Ze.r(K:Ze R kids kk ls){h:Hp}(hi:Y8 R h):Jj h [] 6 ls kk:=by
 cases K with
 |none hs ha=>exact⟨hs,by simp,LU hs,fun i cs hi=>by simp at hi,fun c m off n z e=>by subst e;cases ha⟩
 |row hr hn hl hls hcs hk=>
  rename_i c m off cells;refine⟨by rw[hls];rfl,by rw[hls];exact hn,rfl,fun i cs he=>?_,fun c' m' off' n' z e=>?_⟩
  ·have hlt:=(List.getElem?_eq_some_iff.1 he).1;have:=hcs i cs he;refine⟨c,m,off,cells,by rw[hls],by simp,hi _ _ _ hr,?_,this.symm⟩;rw[this,List.length_take,List.length_drop];omega
  ·injection e with e1 e2 e3 e4 e5
   subst e1 e2 e3 e4 e5;exact⟨by simp,cells,hi _ _ _ hr,hl⟩
end
theorem ZO.U5{R:Ee}{o:List Nat}{a b c n:Int}{kids:List Cr}(r:ZO R (.mk o a b c n kids) cs):
  ∃kk ls,cs=[.str o,.int .i64 a,.int .i64 b,.int .i64 c,.int .i64 n,kk]∧Ze R kids kk ls:=by
 cases r with
 |leaf hs ha=>exact⟨_,[],rfl,.none hs ha⟩
 |node hr hn hl hk=>
  rename_i x m off cells
  have hlen:((List.range kids.length).map fun i=>(cells.drop (off+i *6)).take 6).length=kids.length:=by simp
  have hat: ∀(i:Nat) (cs:List AV),((List.range kids.length).map fun i=>(cells.drop (off+i *6)).take 6)[i]? =some cs→i<kids.length∧cs=(cells.drop (off+i *6)).take 6:=by
   intro i cs hi;rw[List.getElem?_map]at hi
   have hlt:i<kids.length:=by
    by_cases h:i<kids.length
    ·exact h
    ·rw[List.getElem?_eq_none (by simp;omega)]at hi;cases hi
   rw[List.getElem?_range hlt]at hi
   injection hi with hi
   exact⟨hlt,hi.symm⟩
  refine⟨_,(List.range kids.length).map fun i=>(cells.drop (off+i *6)).take 6,rfl,.row hr hn hl hlen (fun i cs hi=>(hat i cs hi).2) fun i k cs h1 h2=>?_⟩;rw[(hat i cs h2).2];exact hk i k h1
theorem ZO.zH{R:Ee}{k:Cr}(r:ZO R k cs): ∃o a b c n l kk ls,k=.mk o a b c n l∧cs=[.str o,.int .i64 a,.int .i64 b,.int .i64 c,.int .i64 n,kk]∧Ze R l kk ls:=by
 obtain⟨o,a,b,c,n,l⟩:=k;obtain⟨kk,ls,e,K⟩:=r.U5;exact⟨o,a,b,c,n,l,kk,ls,rfl,e,K⟩
theorem ZO.shape{R:Ee}{k:Cr}{o:List Nat}{a b c n:Int}{kk:AV}(r:ZO R k [.str o,.int .i64 a,.int .i64 b,.int .i64 c,.int .i64 n,kk]): ∃l ls,k=.mk o a b c n l∧Ze R l kk ls:=by
 obtain⟨o1,a1,b1,c1,n1,l,kk',ls,e1,e,K⟩:=r.zH
 injection e with x1 e;injection e with x2 e;injection e with x3 e;injection e with x4 e;injection e with x5 e;injection e with x6 e
 injection x1 with x1;injection x2 with _ x2;injection x3 with _ x3;injection x4 with _ x4;injection x5 with _ x5
 subst x1 x2 x3 x4 x5 x6;exact⟨l,ls,e1,K⟩
mutual
def XZ:Cr→Nat
 |.mk _ _ _ _ _ l=>Zf l+1
def Zf:List Cr→Nat
 |[]=>0
 |k::l=>XZ k+Zf l
end
theorem SJ(k:Cr):1≤XZ k:=by cases k;rw[XZ];omega
theorem jo{k:Cr}{l:List Cr}(h:k∈l):XZ k≤Zf l:=by
 induction l with
 |nil=>cases h
 |cons x l ih=>
  rw[Zf];rcases List.mem_cons.1 h with rfl|h
  ·omega
  ·have:=ih h;omega
theorem Gq{l:List Cr}{k:Cr}(h:l[i]? =some k):Zf (l.drop i)=XZ k+Zf (l.drop (i+1)):=by
 obtain⟨h1,h2⟩:=List.getElem?_eq_some_iff.1 h;rw[List.drop_eq_getElem_cons h1,Zf,h2]
theorem E7{M:Cr→Prop}(h: ∀o a b g n kids,(∀k,k∈kids→M k)→M (.mk o a b g n kids))(k:Cr):M k:=by
 have: ∀n k,XZ k≤n→M k:=by
  intro n
  induction n with
  |zero=>intro k hk;cases k;rw[XZ]at hk;omega
  |succ n ih=>
   intro k hk
   cases k with
   |mk o a b g z kids=>
    rw[XZ]at hk;exact h _ _ _ _ _ _ fun k hm=>ih k (by have:=jo hm;omega)
 exact this _ k (Nat.le_refl _)
theorem VG{l:List Cr}{k:Cr}(h:l[i]? =some k):k∈l:=List.mem_of_getElem? h
theorem WZ{l:List Cr}(h:l.length≤i):l.drop i=[]:=List.drop_eq_nil_of_le h
def Ui(o:List Nat):List Nat×Int×Bool:=
 if [116,114,117,101]=o then([],0,true)else if [115,117,98]=o then([65,66],0,true)else if [115,105,110,103]=o then([65],0,true)else if [102,108,97,103]=o then([65],0,true)
 else if [110,111,110,101]=o then([65],0,true)else if [108,101,115,115]=o then([65,66],0,true)else if [112,108,117,115]=o then([65,66,78],0,true)else if [110,117,109]=o then([65,78],0,true)
 else if [117,110,105,111,110]=o then([65,66,67],0,true)else if [105,110,116,101,114]=o then([65,66,67],0,true)else if [109,105,110,117,115]=o then([65,66,67],0,true)
 else if [110,111,116]=o then([],1,true)else if [97,110,100]=o then([],2,true)else if [101,120]=o then([65],1,true)else([],0,false)
def JM(h:List Nat)(k:Nat)(v n:Int):Bool:=if k∈h then decide (0≤v)&&decide (v<n)else decide (v=0)
mutual
def QX : Cr → Int → Bool
  | .mk o a b g n l, m => (Ui o).2.2 && (decide (((l.length : Nat) : Int) = (Ui o).2.1) && (JM (Ui o).1 78 n 21 && (if o = [101, 120] then decide (a = m) && (decide (m < 6) && (decide (b = 0) && (decide (g = 0) && Xp l (m + 1))))
    else JM (Ui o).1 65 a m && (JM (Ui o).1 66 b m && (JM (Ui o).1 67 g m && Xp l m)))))
def Xp : List Cr → Int → Bool
  | [], _ => true
  | k :: l, m => QX k m && Xp l m
end
theorem Ea{l:List Cr}{m:Int}(h:Xp l m=true){k:Cr}(hk:k∈l):QX k m=true:=by
 induction l with
 |nil=>cases hk
 |cons x l ih=>
  rw[Xp,Bool.and_eq_true]at h;rcases List.mem_cons.1 hk with rfl|hk
  ·exact h.1
  ·exact ih h.2 hk
end
section
open Go Go.RowKit
variable {w:List Nat}

theorem VX{a b:Au}(h:a.tr=b.tr)(hw:VO a.K w):VO b.K w:=by unfold Au.K at *;rw[←h];exact hw
structure JS(a m:Au):Prop where
 canon:Canon m
 like:XV m a 0 0
 tr:m.tr=a.tr
theorem JS.uniq{a b m p:Au}(h1:JS a m)(h2:JS b p)(ht:b.tr=a.tr)(hl:XV a b 0 0):m=p:=
 Sk h1.canon h2.canon (by rw[h1.tr,h2.tr,ht]) fun w hw=>by
  have ha:=VX h1.tr hw;rw[h1.like w hw,hl w ha];exact(h2.like w (VX (ht.symm.trans h2.tr.symm) ha)).symm
theorem XV.refl(a:Au)(s:Nat):XV a a s s:=fun _ _=>rfl
def Au.neg(a:Au):Au:=⟨a.tr,a.acc.map (!·),a.nx⟩
theorem Tx(a:Au):a.neg.n=a.n:=by simp[Au.neg,Au.n]
theorem eD{a:Au}{s:Nat}(h:s<a.n):a.neg.ok s= !a.ok s:=by
 unfold Au.ok Au.neg;simp only[List.getElem?_map];rw[List.getElem?_eq_getElem h];rfl
theorem u0{a:Au}(W:Zs a):Zs a.neg:=
 ⟨W.tr,by rw[Tx];exact W.pos,by rw[Tx];exact W.most,by rw[Tx];exact W.len,fun r hr=>by rw[Tx];exact W.row r hr⟩
theorem xX{a:Au}(W:Zs a)(hw:VO a.K w){s:Nat}(hs:s<a.n):a.neg.ok (a.neg.run s w)= !a.ok (a.run s w):=eD (W.Rj w hs hw)
def QR (o : List Nat) (n s a b d : Nat) : Nat :=
  if s = 30 then 30
  else if o = [115, 117, 98] then (if a ≤ b then 0 else 30)
  else if o = [110, 111, 110, 101] then (if a = 0 then 0 else 30)
  else if o = [117, 110, 105, 111, 110] then (if d = a ||| b then 0 else 30)
  else if o = [105, 110, 116, 101, 114] then (if d = a &&& b then 0 else 30)
  else if o = [109, 105, 110, 117, 115] then (if d = a - b then 0 else 30)
  else if o = [102, 108, 97, 103] then (if s = 1 ∨ a = 1 then 1 else 30)
  else if o = [115, 105, 110, 103] then (if 1 < s + a then 30 else s + a)
  else if o = [110, 117, 109] then (if s = n + 1 ∧ a = 0 then s else if n < s ∨ (s < n ∧ a = 1) ∨ (s = n ∧ a = 0) then 30 else s + 1)
  else if o = [108, 101, 115, 115] then (if a + b = 0 then s else if s = 0 ∧ a = 1 ∧ b = 0 then 1 else if s = 1 ∧ a = 0 ∧ b = 1 then 2 else 30)
  else if o = [112, 108, 117, 115] then
    (if s = n + 1 ∨ (s = 0 ∧ a = 0) then (if a + b = 0 then s else 30)
     else if s = 0 ∧ n = 0 then (if b = 1 then 1 else 30)
     else if s = 0 then (if b = 0 then 1 else 30)
     else if a = 1 ∨ (s < n ∧ b = 1) ∨ (s = n ∧ b = 0) then 30 else s + 1)
  else 0
def Xe(o:List Nat)(n s:Nat):Bool:=
 if s=30 then false
 else if o=[102,108,97,103]∨o=[115,105,110,103]then decide (s=1)
 else if o=[108,101,115,115]then decide (s=2)
 else if o=[112,108,117,115]∨o=[110,117,109]then decide (s=n+1)
 else true
def Hi(l v:Nat):Nat:=l/2^v % 2
def VS(o:List Nat)(n a b d s l:Nat):Nat:=min (QR o n s (Hi l a) (Hi l b) (Hi l d)) 30
def Zo(o:List Nat)(a b d n k:Nat):Au:=⟨k,(List.range 31).map (Xe o n),(List.range 31).map fun s=>(List.range (2^k)).map fun l=>((VS o n a b d s l:Nat):Int)⟩
section
variable {o:List Nat} {a b d n k:Nat}
theorem C4:(Zo o a b d n k).n=31:=by simp[Zo,Au.n]
theorem P6{s l:Nat}(hs:s<31)(hl:l<2^k):(Zo o a b d n k).go s l=VS o n a b d s l:=by
 unfold Au.go Zo;simp only[List.getElem?_map,List.getElem?_range hs,Option.map_some,Option.getD_some,List.getElem?_range hl,Int.toNat_natCast]
theorem P5{s:Nat}(hs:s<31):(Zo o a b d n k).ok s=Xe o n s:=by
 unfold Au.ok Zo;simp only[List.getElem?_map,List.getElem?_range hs,Option.map_some,Option.getD_some]
theorem H7(s l:Nat):VS o n a b d s l<31:=by unfold VS;omega
theorem P4(hk:k≤6):Zs (Zo o a b d n k):=by
 refine⟨hk,by rw[C4];decide,by rw[C4];decide,by simp[Zo,Au.n],fun r hr=>?_⟩;obtain⟨s,_,rfl⟩:=List.mem_map.1 hr;refine⟨by simp[Zo,Au.K],fun z hz=>?_⟩;obtain⟨l,_,rfl⟩:=List.mem_map.1 hz;have:=H7 (o:=o) (n:=n) (a:=a) (b:=b) (d:=d) s l;rw[C4];omega
theorem qN(w:List Nat): ∀{s:Nat},s<31→VO (2^k) w→(Zo o a b d n k).run s w=w.foldl (VS o n a b d) s:=by
 induction w with
 |nil=>intro s _ _;rfl
 |cons c w ih=>
  intro s hs hw;rw[Au.Na,P6 hs (hw c Q7),ih (H7 s c) fun x hx=>hw x (by simp[hx])];rfl
end
inductive Jx:Cr→Nat→Au→Nat→Prop
 |atom {o:List Nat} {a b d n:Int} {k:Nat} {m:Au} (h1:o≠[110,111,116]) (h2:o≠[97,110,100]) (h3:o≠[101,120]) (h:JS (Zo o a.toNat b.toNat d.toNat n.toNat k) m):Jx (.mk o a b d n []) k m m.n
 |not {o:List Nat} {a b d n:Int} {x:Cr} {k s:Nat} {p m:Au} (ho:o=[110,111,116]) (hx:Jx x k p s) (h:JS p.neg m):Jx (.mk o a b d n [x]) k m (s+m.n)
 |and {o:List Nat} {a b d n:Int} {x y:Cr} {k s t:Nat} {p q r m:Au} {lp:List (Nat×Nat)} (ho:o=[97,110,100]) (hx:Jx x k p s) (hy:Jx y k q t) (hb:I0 p q 8 lp r) (h:JS r m):Jx (.mk o a b d n [x,y]) k m (s+t+m.n)
 |ex {o:List Nat} {a b d n:Int} {x:Cr} {k s:Nat} {p r m:Au} {acc:List Bool} {L:List (List Int)} (ho:o=[101,120]) (hx:Jx x (k+1) p s) (hc:AM p k acc) (hm:UB (Uv p k) [0] (anyS acc) L r) (ht:r.tr=k) (h:JS r m):Jx (.mk o a b d n [x]) k m (s+m.n)
section
variable {c x y:Cr} {k s t:Nat} {m p q:Au}
theorem Jx.least(h:Jx c k m s): ∃r,JS r m:=by cases h<;>exact⟨_,‹JS _ m›⟩
theorem Jx.canon(h:Jx c k m s):Canon m:=by obtain⟨r,h⟩:=h.least;exact h.canon
theorem Jx.wf(h:Jx c k m s):Zs m:=h.canon.wf
theorem Jx.ge(h:Jx c k m s):m.n≤s:=by cases h<;>omega
theorem Jx.pos(h:Jx c k m s):1≤s:=Nat.le_trans h.wf.pos h.ge
theorem Jx.tr(h:Jx c k m s):m.tr=k:=by
 induction h with
 |atom _ _ _ h=>exact h.tr
 |not _ hx h ih=>exact h.tr.trans ih
 |and _ hx hy hb h ih1 ih2=>exact h.tr.trans (hb.2.trans ih1)
 |ex _ hx hc hm ht h ih=>exact h.tr.trans ht
theorem xf(x y:Bool):CN 8 x y=(x&&y):=by cases x<;>cases y<;>rfl
theorem Jx.uS{o:List Nat}{a b d n:Int}(hx:Jx x k p s)(h:JS p.neg m)(hw:VO (2^k) w):m.ok (m.run 0 w)= !p.ok (p.run 0 w):=by
 have hp:VO p.K w:=by unfold Au.K;rw[hx.tr];exact hw
 rw[h.like w (VX h.tr.symm hp),xX hx.wf hp hx.wf.pos]
theorem Jx.uT{lp:List (Nat×Nat)}{r:Au}(hx:Jx x k p s)(hb:I0 p q 8 lp r)(h:JS r m)(hw:VO (2^k) w):m.ok (m.run 0 w)=(p.ok (p.run 0 w)&&q.ok (q.run 0 w)):=by
 have hp:VO p.K w:=by unfold Au.K;rw[hx.tr];exact hw
 rw[h.like w (VX (hb.2.symm.trans h.tr.symm) hp),hb.RC hp,xf]
theorem Jx.uniq(h:Jx c k m s): ∀{m':Au} {s':Nat},Jx c k m' s'→m=m'∧s=s':=by
 induction h with
 |atom h1 h2 h3 h=>
  intro m' s' h'
  cases h' with
  |atom _ _ _ h'=>
   have e:=h.uniq h' rfl (XV.refl _ _);subst e;exact⟨rfl,rfl⟩
 |not ho hx h ih=>
  intro m' s' h'
  cases h' with
  |not ho' hx' h'=>
   obtain⟨rfl,rfl⟩:=ih hx';have e:=h.uniq h' rfl (XV.refl _ _);subst e;exact⟨rfl,rfl⟩
  |ex ho'=>rw[ho]at ho';simp at ho'
 |and ho hx hy hb h ih1 ih2=>
  intro m' s' h'
  cases h' with
  |and ho' hx' hy' hb' h'=>
   obtain⟨rfl,rfl⟩:=ih1 hx';obtain⟨rfl,rfl⟩:=ih2 hy'
   have e:=h.uniq h' (by rw[hb.2,hb'.2]) fun w hw=>by
    have hp:=VX hb.2 hw;rw[hb.RC hp,hb'.RC hp]
   subst e;exact⟨rfl,rfl⟩
 |ex ho hx hc hm ht h ih=>
  intro m' s' h'
  cases h' with
  |not ho'=>rw[ho]at ho';simp at ho'
  |ex ho' hx' hc' hm' ht' h'=>
   obtain⟨rfl,rfl⟩:=ih hx';obtain rfl:=hc.uniq hc'
   have e:=h.uniq h' (by rw[ht,ht']) fun w hw=>by
    rw[hm.RC hw,hm'.RC (VX (ht.trans ht'.symm) hw)]
   subst e;exact⟨rfl,rfl⟩
end
section
variable {α β:Type} {δ:α→Nat→α} {δ':β→Nat→β} {s0:α} {pr:α→Bool} {pr':β→Bool} {l:List α} {m:Au}
end
section
variable {x y:Cr} {k s:Nat} {m:Au}
end
end
section
set_option maxHeartbeats 2000000
variable {s:Nat}

def Jq(o:List Nat)(n s:Nat)(x y z:Bool):Int:=
 if o=[116,114,117,101]then 0
 else if o=[115,117,98]then(if(!x||y)=true then 0 else-1)
 else if o=[110,111,110,101]then(if(!x)=true then 0 else-1)
 else if o=[117,110,105,111,110]then(if(z==(x||y))=true then 0 else-1)
 else if o=[105,110,116,101,114]then(if(z==(x&&y))=true then 0 else-1)
 else if o=[109,105,110,117,115]then(if(z==(x&& !y))=true then 0 else-1)
 else if o=[115,105,110,103]then(if x=false then((s:Nat):Int)else if s=0 then 1 else-1)
 else if o=[102,108,97,103]then(if s=1∨x=true then 1 else-1)
 else if o=[108,101,115,115]then(if x=false∧y=false then((s:Nat):Int)else if s=0∧x=true∧y=false then 1 else if s=1∧y=true∧x=false then 2 else-1)
 else if o=[112,108,117,115]then(if s=0∧x=true∧y=decide (n=0)then 1 else if(s=0∧x=false∧y=false)∨(s=n+1∧x=false∧y=false)then((s:Nat):Int)else if 0<s∧s<n+1∧x=false∧y=decide (s=n)then((s+1:Nat):Int)else-1)
 else(if s<n+1∧x=decide (s=n)then((s+1:Nat):Int)else if s=n+1∧x=false then((n+1:Nat):Int)else-1)
def Jc(o:List Nat)(n:Nat):Nat:=
 if o=[115,105,110,103]∨o=[102,108,97,103]then 1 else if o=[108,101,115,115]then 2 else if o=[112,108,117,115]∨o=[110,117,109]then n+1 else 0
abbrev Qv(o:List Nat)(n:Nat):Nat:=Jc o n+1
def VP(o:List Nat):Prop:=o=[116,114,117,101]∨o=[115,117,98]∨o=[110,111,110,101]∨o=[117,110,105,111,110]∨o=[105,110,116,101,114]∨o=[109,105,110,117,115]∨o=[115,105,110,103]∨o=[102,108,97,103]∨o=[108,101,115,115]∨o=[112,108,117,115]∨o=[110,117,109]
def Vp(b:Bool):Nat:=if b then 1 else 0
theorem jw{o:List Nat}(h:VP o){n:Nat}(hn:n≤20)(hs:s<Qv o n)(x y z:Bool):(Jq o n s x y z= -1∧QR o n s (Vp x) (Vp y) (Vp z)=30)∨ ∃t:Nat,Jq o n s x y z=((t:Nat):Int)∧t<Qv o n∧QR o n s (Vp x) (Vp y) (Vp z)=t:=by
 have hst:Qv o n≤22:=by unfold Qv Jc;split<;>(try split)<;>(try split)<;>omega
 have h30: ¬s=30:=by omega
 rcases h with rfl|rfl|rfl|rfl|rfl|rfl|rfl|rfl|rfl|rfl|rfl
 ·clear hst;simp[Qv,Jc]at hs;simp only[Jq,QR,Qv,Jc,if_neg h30];cases x<;>cases y<;>cases z<;>simp[Vp]<;>first|omega|(rcases(show s=0∨s=1∨s=2 by omega)with rfl|rfl|rfl<;>first|omega|(simp;done)|simp_all)|simp_all
 ·clear hst;simp[Qv,Jc]at hs;simp only[Jq,QR,Qv,Jc,if_neg h30];cases x<;>cases y<;>cases z<;>simp[Vp]<;>first|omega|(rcases(show s=0∨s=1∨s=2 by omega)with rfl|rfl|rfl<;>first|omega|(simp;done)|simp_all)|simp_all
 ·clear hst;simp[Qv,Jc]at hs;simp only[Jq,QR,Qv,Jc,if_neg h30];cases x<;>cases y<;>cases z<;>simp[Vp]<;>first|omega|(rcases(show s=0∨s=1∨s=2 by omega)with rfl|rfl|rfl<;>first|omega|(simp;done)|simp_all)|simp_all
 ·clear hst;simp[Qv,Jc]at hs;simp only[Jq,QR,Qv,Jc,if_neg h30];cases x<;>cases y<;>cases z<;>simp[Vp]<;>first|omega|(rcases(show s=0∨s=1∨s=2 by omega)with rfl|rfl|rfl<;>first|omega|(simp;done)|simp_all)|simp_all
 ·clear hst;simp[Qv,Jc]at hs;simp only[Jq,QR,Qv,Jc,if_neg h30];cases x<;>cases y<;>cases z<;>simp[Vp]<;>first|omega|(rcases(show s=0∨s=1∨s=2 by omega)with rfl|rfl|rfl<;>first|omega|(simp;done)|simp_all)|simp_all
 ·clear hst;simp[Qv,Jc]at hs;simp only[Jq,QR,Qv,Jc,if_neg h30];cases x<;>cases y<;>cases z<;>simp[Vp]<;>first|omega|(rcases(show s=0∨s=1∨s=2 by omega)with rfl|rfl|rfl<;>first|omega|(simp;done)|simp_all)|simp_all
 ·clear hst;simp[Qv,Jc]at hs;simp only[Jq,QR,Qv,Jc,if_neg h30];cases x<;>cases y<;>cases z<;>simp[Vp]<;>first|omega|(rcases(show s=0∨s=1∨s=2 by omega)with rfl|rfl|rfl<;>first|omega|(simp;done)|simp_all)|simp_all
 ·clear hst;simp[Qv,Jc]at hs;simp only[Jq,QR,Qv,Jc,if_neg h30];cases x<;>cases y<;>cases z<;>simp[Vp]<;>first|omega|(rcases(show s=0∨s=1∨s=2 by omega)with rfl|rfl|rfl<;>first|omega|(simp;done)|simp_all)|simp_all
 ·clear hst;simp[Qv,Jc]at hs;simp only[Jq,QR,Qv,Jc,if_neg h30];cases x<;>cases y<;>cases z<;>simp[Vp]<;>first|omega|(rcases(show s=0∨s=1∨s=2 by omega)with rfl|rfl|rfl<;>first|omega|(simp;done)|simp_all)|simp_all
 ·simp[Qv,Jc]at hs;simp only[Jq,QR,Qv,Jc,if_neg h30];rcases(show(s=0∧n=0)∨(s=0∧0<n)∨(0<s∧s<n)∨(0<s∧s=n)∨s=n+1 by omega)with⟨rfl,rfl⟩|⟨rfl,h1⟩|⟨h1,h2⟩|⟨h1,rfl⟩|rfl
  ·cases x<;>cases y<;>simp[Vp]
  ·have e1: ¬n=0:=by omega
   cases x<;>cases y<;>simp[Vp,e1]<;>omega
  ·have e1: ¬s=0:=by omega
   have e2: ¬s=n+1:=by omega
   have e3: ¬s=n:=by omega
   have e4:s<n+1:=by omega
   cases x<;>cases y<;>simp[Vp,e1,e2,e3,e4,h1,h2]<;>first|omega|exact⟨s+1,rfl,by omega,rfl⟩|exact⟨s+1,by omega,by omega,by omega⟩
  ·have e1: ¬s=0:=by omega
   cases x<;>cases y<;>simp[Vp,e1,h1]<;>first|omega|exact⟨s+1,rfl,by omega,rfl⟩|exact⟨s+1,by omega,by omega,by omega⟩
  ·cases x<;>cases y<;>simp[Vp]<;>first|omega|exact⟨n+1,by omega,by omega,by omega⟩
 ·simp[Qv,Jc]at hs;simp only[Jq,QR,Qv,Jc,if_neg h30];rcases(show s<n∨s=n∨s=n+1 by omega)with h1|rfl|rfl
  ·have e2: ¬s=n+1:=by omega
   have e3: ¬s=n:=by omega
   have e4:s<n+1:=by omega
   have e5: ¬n<s:=by omega
   cases x<;>simp[Vp,e2,e3,e4,e5,h1]<;>first|omega|exact⟨s+1,by omega,by omega,by omega⟩
  ·cases x<;>simp[Vp]<;>first|omega|exact⟨s+1,by omega,by omega,by omega⟩
  ·cases x<;>simp[Vp]<;>first|omega|exact⟨n+1,by omega,by omega,by omega⟩
theorem C3(l v:Nat):Vp (decide (((Hi l v:Nat):Int)=1))=Hi l v:=by
 have h:Hi l v=0∨Hi l v=1:=by unfold Hi;omega
 rcases h with h|h<;>rw[h]<;>rfl
abbrev ZA(l v:Nat):Bool:=decide (((Hi l v:Nat):Int)=1)
def EL(o:List Nat)(n a b d s l:Nat):Nat:=if s<Qv o n then(if Jq o n s (ZA l a) (ZA l b) (ZA l d)= -1 then Qv o n else(Jq o n s (ZA l a) (ZA l b) (ZA l d)).toNat)else Qv o n
def Rl(o:List Nat)(n a b d k s:Nat):List Int:=(List.range (2^k)).map fun l=>((EL o n a b d s l:Nat):Int)
def V2(o:List Nat)(a b d n k:Nat):Au:=⟨k,(List.range (Qv o n+1)).map fun s=>decide (((s:Nat):Int)=((Jc o n:Nat):Int)),(List.range (Qv o n+1)).map (Rl o n a b d k)⟩
section
variable {o:List Nat} {a b d n k:Nat}
theorem Az(n:Nat)(hn:n≤20):Jc o n≤21:=by unfold Jc;split<;>(try split)<;>(try split)<;>omega
theorem BB:(V2 o a b d n k).n=Qv o n+1:=by simp[V2,Au.n]
theorem jO{l:Nat}(hs:s<Qv o n+1)(hl:l<2^k):(V2 o a b d n k).go s l=EL o n a b d s l:=by
 unfold Au.go V2 Rl;simp only[List.getElem?_map,List.getElem?_range hs,Option.map_some,Option.getD_some,List.getElem?_range hl,Int.toNat_natCast]
theorem jN(hs:s<Qv o n+1):(V2 o a b d n k).ok s=decide (((s:Nat):Int)=((Jc o n:Nat):Int)):=by
 unfold Au.ok V2;simp only[List.getElem?_map,List.getElem?_range hs,Option.map_some,Option.getD_some]
def C9(o:List Nat)(n s t:Nat):Prop:=(s=t∧s<Qv o n)∨(s=Qv o n∧t=30)
theorem C9.step(h:VP o)(hn:n≤20){t:Nat}(R:C9 o n s t)(l:Nat):C9 o n (EL o n a b d s l) (VS o n a b d t l):=by
 have hl:=Az (o:=o) n hn;have hsp:Qv o n=Jc o n+1:=rfl;rcases R with⟨rfl,hs⟩|⟨rfl,rfl⟩
 ·unfold EL VS;rw[if_pos hs,←C3 l a,←C3 l b,←C3 l d];rcases jw h hn hs (ZA l a) (ZA l b) (ZA l d)with⟨h1,h2⟩|⟨t,h1,h2,h3⟩
  ·rw[if_pos h1,h2];exact .inr ⟨rfl,rfl⟩
  ·rw[h1,if_neg Qc,h3,Int.toNat_natCast];exact .inl ⟨by omega,h2⟩
 ·unfold EL VS QR;rw[if_neg (Nat.lt_irrefl _),if_pos rfl];exact .inr ⟨rfl,rfl⟩
theorem uo(h:VP o)(hn:n≤20)(s l:Nat):EL o n a b d s l<Qv o n+1:=by
 by_cases hs:s<Qv o n
 ·rcases C9.step (a:=a) (b:=b) (d:=d) h hn (.inl ⟨rfl,hs⟩:C9 o n s s) l with⟨_,h1⟩|⟨h1,_⟩<;>omega
 ·unfold EL;rw[if_neg hs];omega
theorem jM(h:VP o)(hn:n≤20)(hk:k≤6):Zs (V2 o a b d n k):=by
 have hl:=Az (o:=o) n hn;have hsp:Qv o n=Jc o n+1:=rfl;refine⟨hk,by rw[BB];omega,by rw[BB];omega,by simp[V2,Au.n],fun r hr=>?_⟩;obtain⟨s,_,rfl⟩:=List.mem_map.1 hr;refine⟨by simp[Rl,V2,Au.K],fun z hz=>?_⟩;obtain⟨l,_,rfl⟩:=List.mem_map.1 hz;have:=uo (a:=a) (b:=b) (d:=d) h hn s l;rw[BB];omega
theorem C9.ok(h:VP o)(hn:n≤20){t:Nat}(R:C9 o n s t):decide (((s:Nat):Int)=((Jc o n:Nat):Int))=Xe o n t:=by
 have hl:=Az (o:=o) n hn;have hsp:Qv o n=Jc o n+1:=rfl;rcases R with⟨rfl,hs⟩|⟨rfl,rfl⟩
 ·unfold Xe;rw[if_neg Qc]
  rcases h with rfl|rfl|rfl|rfl|rfl|rfl|rfl|rfl|rfl|rfl|rfl<;>simp[Qv,Jc]at hs ⊢ <;>first|omega|(rw[decide_eq_decide];omega)
 ·unfold Xe;rw[if_pos rfl,decide_eq_false Qc]
theorem Ru(h:VP o)(hn:n≤20):XV (V2 o a b d n k) (Zo o a b d n k) 0 0:=fun w hw=>by
 have key: ∀(w:List Nat) (s t:Nat),VO (2^k) w→C9 o n s t→t<31→C9 o n ((V2 o a b d n k).run s w) ((Zo o a b d n k).run t w):=by
  intro w
  induction w with
  |nil=>intro s t _ R _;exact R
  |cons c w ih=>
   intro s t hw R ht
   have hs:s<Qv o n+1:=by rcases R with⟨_,h1⟩|⟨h1,_⟩<;>omega
   rw[Au.Na,Au.Na,jO hs (hw c Q7),P6 ht (hw c Q7)];exact ih _ _ (fun x hx=>hw x (by simp[hx])) (R.step h hn c) (H7 _ _)
 have R:=key w 0 0 hw (.inl ⟨rfl,Nat.succ_pos _⟩) Q9;have hl:=Az (o:=o) n hn;have hsp:Qv o n=Jc o n+1:=rfl
 have hs:(V2 o a b d n k).run 0 w<Qv o n+1:=by rcases R with⟨_,h1⟩|⟨h1,_⟩<;>omega
 have ht:(Zo o a b d n k).run 0 w<31:=by rcases R with⟨h1,h2⟩|⟨_,h1⟩<;>omega
 rw[jN hs,P5 ht,R.ok h hn]
theorem JS.trans{x y m:Au}(h:JS x m)(hl:XV x y 0 0)(ht:y.tr=x.tr):JS y m:=
 ⟨h.canon,fun w hw=>by rw[h.like w hw];exact hl w (VX h.tr hw),h.tr.trans ht.symm⟩
theorem JS.atom(h:VP o)(hn:n≤20){m:Au}(hm:JS (V2 o a b d n k) m):JS (Zo o a b d n k) m:=hm.trans (Ru h hn) rfl
end
end
section
variable {s:Nat}

def Ua:List Int→List Int→List Int
 |seen,[]=>seen
 |seen,x::xs=>if x∈seen then Ua seen xs else Ua (seen++[x]) xs
theorem AS: ∀(xs seen:List Int),(Ua seen xs).length≤seen.length+xs.length
 |[],seen=>by simp[Ua]
 |x::xs,seen=>by
  rw[Ua]
  split
  ·have:=AS xs seen;simp only[List.length_cons];omega
  ·have:=AS xs (seen++[x]);simp only[List.length_cons,List.length_append,List.length_nil]at this ⊢;omega
theorem Lt: ∀(xs seen:List Int) {x:Int} {i:Nat},seen.Nodup→(Ua seen xs)[i]? =some x→Uh seen (xs++[x])=Uh seen xs++[((i:Nat):Int)]∧Ua seen (xs++[x])=Ua seen xs
 |[],seen,x,i,hn,h=>by
  have h:seen[i]? =some x:=h;have hm:=List.mem_of_getElem? h
  have hi:seen.idxOf x=i:=by
   have hlt:=List.idxOf_lt_length_of_mem hm;exact(List.getElem?_inj hlt hn).1 (by rw[List.getElem?_eq_getElem hlt,List.getElem_idxOf,h])
  rw[List.nil_append];unfold Uh Ua;rw[if_pos hm,if_pos hm,hi];exact⟨rfl,rfl⟩
 |y::xs,seen,x,i,hn,h=>by
  rw[Ua]at h;rw[List.cons_append,Uh,Uh,Ua,Ua]
  split at h
  ·rename_i hy;obtain⟨h1,h2⟩:=Lt xs seen hn h;rw[if_pos hy,if_pos hy,if_pos hy,if_pos hy,h1,h2];exact⟨rfl,rfl⟩
  ·rename_i hy;have hn':(seen++[y]).Nodup:=List.nodup_append.2 ⟨hn,by simp,fun a ha b hb e=>by rw[List.mem_singleton]at hb;subst hb e;exact hy ha⟩;obtain⟨h1,h2⟩:=Lt xs _ hn' h;rw[if_neg hy,if_neg hy,if_neg hy,if_neg hy,h1,h2];exact⟨rfl,rfl⟩
theorem Lu: ∀(xs seen:List Int) {x:Int},x∉Ua seen xs→Uh seen (xs++[x])=Uh seen xs++[(((Ua seen xs).length:Nat):Int)]∧Ua seen (xs++[x])=Ua seen xs++[x]
 |[],seen,x,h=>by
  have h:x∉seen:=h;rw[List.nil_append];unfold Uh Ua;rw[if_neg h,if_neg h];exact⟨rfl,rfl⟩
 |y::xs,seen,x,h=>by
  rw[Ua]at h;rw[List.cons_append,Uh,Uh,Ua,Ua]
  split at h
  ·rename_i hy;obtain⟨h1,h2⟩:=Lu xs seen h;rw[if_pos hy,if_pos hy,if_pos hy,if_pos hy,h1,h2];exact⟨rfl,rfl⟩
  ·rename_i hy;obtain⟨h1,h2⟩:=Lu xs _ h;rw[if_neg hy,if_neg hy,if_neg hy,if_neg hy,h1,h2];exact⟨rfl,rfl⟩
theorem Co{l:List Int}{x:Int}(h:s<l.length):cv (l++[x]) s=cv l s:=by unfold cv;rw[List.getElem?_append_left h]
theorem Cn(l:List Int)(x:Int):cv (l++[x]) l.length=x:=by unfold cv;rw[List.getElem?_append_right (Nat.le_refl _),Nat.sub_self];rfl
theorem D3(n:Nat): ∀xs:List Int,xs.length=n→Kg n (Uh [] xs) (Ua [] xs).length:=by
 induction n with
 |zero=>
  intro xs h;have:=List.eq_nil_of_length_eq_zero h;subst this;exact⟨fun s hs=>absurd hs (Nat.not_lt_zero s),fun v hv=>absurd hv (Nat.not_lt_zero v)⟩
 |succ n ih=>
  intro xs h;obtain⟨ys,x,rfl⟩: ∃ys x,xs=ys++[x]:=⟨xs.dropLast,xs.getLast (by intro e;subst e;simp at h),(List.dropLast_concat_getLast _).symm⟩
  have hl:ys.length=n:=by simpa using h
  obtain⟨h1,h2⟩:=ih ys hl
  have hnl:(Uh [] ys).length=n:=by rw[XE];exact hl
  by_cases hx:x∈Ua [] ys
  ·obtain⟨i,hi⟩:=List.getElem?_of_mem hx;have hlt:=(List.getElem?_eq_some_iff.1 hi).1;obtain⟨e1,e2⟩:=Lt ys [] List.nodup_nil hi;rw[e1,e2];refine⟨fun s hs=>?_,fun v hv=>?_⟩
   ·by_cases hsn:s<n
    ·rw[Co Qc];exact h1 s hsn
    ·have:s=(Uh [] ys).length:=by omega
     rw[this,Cn];omega
   ·obtain⟨s,k1,k2⟩:=h2 v hv;exact⟨s,by omega,by rw[Co Qc];exact k2⟩
  ·obtain⟨e1,e2⟩:=Lu ys [] hx;rw[e1,e2,List.length_append,List.length_singleton];refine⟨fun s hs=>?_,fun v hv=>?_⟩
   ·by_cases hsn:s<n
    ·rw[Co Qc];have:=h1 s hsn;omega
    ·have:s=(Uh [] ys).length:=by omega
     rw[this,Cn];omega
   ·by_cases hvl:v<(Ua [] ys).length
    ·obtain⟨s,k1,k2⟩:=h2 v hvl;exact⟨s,by omega,by rw[Co Qc];exact k2⟩
    ·refine⟨n,Nat.lt_succ_self n,?_⟩;rw[←hnl,Cn];omega
theorem Sc{α:Type}{l:List α}{f:α→Int}{x:α}(h:l[s]? =some x):cv (l.map f) s=f x:=by unfold cv;rw[List.getElem?_map,h];rfl
theorem jW{n r q c d:Int}(hc:0≤c∧c<n)(hd:0≤d∧d<n):(r *n+c=q *n+d)↔r=q∧c=d:=by
 refine⟨fun h=>?_,fun⟨h1,h2⟩=>by rw[h1,h2]⟩
 have e:(r-q) *n=d-c:=by rw[Int.sub_mul];omega
 have hrq:r=q:=by
  rcases Int.lt_trichotomy r q with h1|h1|h1
  ·exfalso
   have:=Int.mul_le_mul_of_nonneg_right (show r-q≤ -1 by omega) (show 0≤n by omega);omega
  ·exact h1
  ·exfalso
   have:=Int.mul_le_mul_of_nonneg_right (show 1≤r-q by omega) (show 0≤n by omega);omega
 subst hrq;exact⟨rfl,by omega⟩
structure VM(a:Au)(cl:List Int)(ls:List Nat)(rows:List (List Int))(row:List Int):Prop where
 pr:Vw (IX a cl) (cv cl 0) (2^a.tr) (ls.map (cv cl)) rows row
 lt: ∀s∈ls,s<a.n
section
variable {a:Au} {cl:List Int} {ls:List Nat} {rows:List (List Int)} {row:List Int}
theorem VM.le(H:VM a cl ls rows row)(hr: ∀s,s<a.n→0≤cv cl s∧cv cl s<((a.n:Nat):Int)):ls.length≤a.n:=by
 have h:=ZX (b:=(List.range a.n).map fun z=>((z:Nat):Int)) H.pr.nodup fun x hx=>by
  obtain⟨s,hs,rfl⟩:=List.mem_map.1 hx;have:=hr s (H.lt s hs);exact List.mem_map.2 ⟨(cv cl s).toNat,List.mem_range.2 Qc,by omega⟩
 simpa using h
theorem VM.start(W:Zs a):VM a cl [0] [] []:=⟨Vw.start _ _ _,fun s hs=>by rw[List.mem_singleton.1 hs];exact W.pos⟩
theorem VM.next(W:Zs a)(hc:ZP a cl){y:Nat}(hs:ls[rows.length]? =some s)(hls:s<a.n)(hr:row.length<2^a.tr)(hy:a.go s row.length=y):(ls.map (cv cl))[rows.length]? =some (cv cl s)∧IX a cl (cv cl s) row.length=cv cl y:=by
 refine⟨by rw[List.getElem?_map,hs];rfl,?_⟩;rw[L6 (hc.I9 W) hls hr,hy]
theorem VM.new(H:VM a cl ls rows row)(W:Zs a)(hc:ZP a cl){s y:Nat}(hs:ls[rows.length]? =some s)(hr:row.length<2^a.tr)(hy:a.go s row.length=y)(hyn:y<a.n)(hn:cv cl y∉ls.map (cv cl)):VM a cl (ls++[y]) rows (row++[((ls.length:Nat):Int)]):=by
 obtain⟨h1,h2⟩:=VM.next W hc hs (H.lt s (List.mem_of_getElem? hs)) hr hy;have h4:=H.pr.new hr h1 (by rw[h2];exact hn);rw[h2,List.length_map]at h4;refine⟨by rw[List.map_append];exact h4,fun t ht=>?_⟩;rcases List.mem_append.1 ht with ht|ht
 ·exact H.lt t ht
 ·rw[List.mem_singleton.1 ht];exact hyn
theorem VM.JB(H:VM a cl ls rows row)(W:Zs a)(hc:ZP a cl){s y j:Nat}(hs:ls[rows.length]? =some s)(hr:row.length<2^a.tr)(hy:a.go s row.length=y)(hj:(ls.map (cv cl))[j]? =some (cv cl y)):VM a cl ls rows (row++[((j:Nat):Int)]):=by
 obtain⟨h1,h2⟩:=VM.next W hc hs (H.lt s (List.mem_of_getElem? hs)) hr hy;exact⟨H.pr.JB hr h1 (by rw[h2];exact hj),H.lt⟩
theorem VM.whole(H:VM a cl ls rows row)(hr:row.length=2^a.tr):VM a cl ls (rows++[row]) []:=⟨H.pr.whole hr,H.lt⟩
theorem VM.made(H:VM a cl ls rows [])(W:Zs a)(hc:ZP a cl)(hn:ls.length≤400)(hl:rows.length=ls.length):UB (IX a cl) (cv cl 0) (Pt a cl) (ls.map (cv cl)) ⟨a.tr,ls.map a.ok,rows⟩:=by
 refine H.pr.made (m:=⟨a.tr,ls.map a.ok,rows⟩) (by rw[List.length_map];exact hl) ?_ W.tr (by rw[List.length_map];exact hn);show ls.map a.ok=(ls.map (cv cl)).map (Pt a cl);rw[List.map_map];exact List.map_congr_left fun s hs=>(Cu hc (H.lt s hs)).symm
theorem VM.least(H:VM a cl ls rows [])(W:Zs a)(hc:ZP a cl)(hn:ls.length≤400)(hl:rows.length=ls.length):JS a ⟨a.tr,ls.map a.ok,rows⟩:=by
 obtain⟨h1,h2⟩:=G8 (m:=⟨a.tr,ls.map a.ok,rows⟩) W hc rfl (H.made W hc hn hl);exact⟨h1,h2,rfl⟩
end
end
section
open Go Go.RowKit

def UX{α:Type}:Nat→List α→List (α×AV)
 |_,[]=>[]
 |j,n::S=>(n,.int .i64 (j:Nat))::UX (j+1) S
section
variable {α β:Type}
theorem Fh: ∀(j:Nat) (S:List α) (n:α),UX j (S++[n])=UX j S++[(n,.int .i64 (j+S.length:Nat))]
 |j,[],n=>by simp[UX]
 |j,x::S,n=>by
  rw[List.cons_append,UX,UX,Fh (j+1) S n,List.cons_append,List.length_cons,show j+1+S.length=j+(S.length+1) by omega]
theorem Pf: ∀{j:Nat} {S:List α} {n:α} {v:AV},(n,v)∈UX j S→ ∃i:Nat,S[i]? =some n∧v=.int .i64 (j+i:Nat)
 |j,[],n,v,h=>by cases h
 |j,x::S,n,v,h=>by
  rcases List.mem_cons.1 h with e|h
  ·injection e with e1 e2
   subst e1 e2;exact⟨0,rfl,rfl⟩
  ·obtain⟨i,h1,h2⟩:=Pf h;exact⟨i+1,h1,by rw[h2];congr 2;omega⟩
theorem D8: ∀{j:Nat} {S:List α} {n:α},n∈S→ ∃v,(n,v)∈UX j S
 |j,[],n,h=>by cases h
 |j,x::S,n,h=>by
  rcases List.mem_cons.1 h with rfl|h
  ·exact⟨_,List.mem_cons_self ..⟩
  ·obtain⟨v,hv⟩:=D8 (j:=j+1) h;exact⟨v,List.mem_cons_of_mem _ hv⟩
theorem NC{S:List α}{n:α}(h:Yr (UX 0 S) n=none):n∉S:=fun hm=>by
 obtain⟨v,hv⟩:=D8 (j:=0) hm;exact NA h v hv
theorem NB{S:List α}{n:α}{v:AV}(h:Yr (UX 0 S) n=some v): ∃i:Nat,S[i]? =some n∧v=.int .i64 (i:Nat):=by
 obtain⟨i,h1,h2⟩:=Pf (Ly h);exact⟨i,h1,by rw[h2,Nat.zero_add]⟩
theorem VQ.comp{P:Program}{t:TypeId}{key:α→AV}{z:AV}(T:VQ P t key z)(f:β→α)(hi: ∀x y,f x=f y→x=y):VQ P t (fun x=>key (f x)) z:=by
 obtain⟨kt,et,d,u1,u2,u3,u4,u5,u6⟩:=T.rule;exact⟨kt,et,d,u1,u2,u3,fun a=>u4 _,fun a i=>u5 _ i,fun a b v n es i=>⟨fun h=>(u6 (f a) (f b) v n es i).1 (congrArg f h),fun h=>(u6 (f a) (f b) v n es i).2 fun e=>h (hi _ _ e)⟩⟩
end
abbrev Xo(p:Nat×Nat):AV:=.agg [.int .i64 (p.1:Nat),.int .i64 (p.2:Nat)]
theorem WS:VQ Tryz.prog 172 Xo (.int .i64 0):=uY.comp (fun p:Nat×Nat=>(((p.1:Nat):Int),((p.2:Nat):Int))) fun x y e=>by
 injection e with e1 e2
 exact Prod.ext Qc Qc
end
end Go.Proofs.YtiknomepbklibaaGreatDoor
