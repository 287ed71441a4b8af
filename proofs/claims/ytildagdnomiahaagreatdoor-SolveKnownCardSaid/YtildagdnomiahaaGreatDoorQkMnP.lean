/-
  Automata of core formulas, plainly.
-/
import Derived.Test.YtildagdnomiahaaGreatDoorQkCo
set_option linter.unusedVariables false
namespace Go.Proofs.YtildagdnomiahaaGreatDoor
section
open Go Go.RowKit

theorem E6{a b:Au}(h:a.tr=b.tr){w:List Nat}(hw:HD a.K w):HD b.K w:=by unfold Au.K at *;rw[←h];exact hw
structure Jm(a m:Au):Prop where
 canon:Canon m
 like:ZZ m a 0 0
 tr:m.tr=a.tr
theorem Jm.uniq{a b m p:Au}(h1:Jm a m)(h2:Jm b p)(ht:b.tr=a.tr)(hl:ZZ a b 0 0):m=p:=
 PY h1.canon h2.canon (by rw[h1.tr,h2.tr,ht]) fun w hw=>by
  have ha:=E6 h1.tr hw;rw[h1.like w hw,hl w ha];exact(h2.like w (E6 (ht.symm.trans h2.tr.symm) ha)).symm
theorem ZZ.refl(a:Au)(s:Nat):ZZ a a s s:=fun _ _=>rfl
theorem Jm.self{a:Au}(h:Canon a):Jm a a:=⟨h,ZZ.refl a 0,rfl⟩
def Au.neg(a:Au):Au:=⟨a.tr,a.acc.map (!·),a.nx⟩
theorem EZ(a:Au):a.neg.n=a.n:=by simp[Au.neg,Au.n]
theorem eK{a:Au}{s:Nat}(h:s<a.n):a.neg.ok s= !a.ok s:=by
 unfold Au.ok Au.neg;simp only[List.getElem?_map];rw[List.getElem?_eq_getElem h];rfl
theorem jn{a:Au}(W:ZX a):ZX a.neg:=
 ⟨W.tr,by rw[EZ];exact W.pos,by rw[EZ];exact W.most,by rw[EZ];exact W.len,fun r hr=>by rw[EZ];exact W.row r hr⟩
theorem RL{a:Au}(W:ZX a){w:List Nat}(hw:HD a.K w){s:Nat}(hs:s<a.n):a.neg.ok (a.neg.run s w)= !a.ok (a.run s w):=eK (W.Pc w hs hw)
theorem T7{a:Au}(C:Canon a):Canon a.neg:=
 ⟨jn C.wf,fun s t hs ht hl=>C.red s t (EZ a▸hs) (EZ a▸ht) fun w hw=>by
  have h:=hl w hw;rw[RL C.wf hw (EZ a▸hs),RL C.wf hw (EZ a▸ht)]at h
  simpa using h,fun k h0 hk=>C.first k h0 (EZ a▸hk)⟩
def X3 (o : List Nat) (n s a b d : Nat) : Nat :=
  if s = 30 then 30
  else if o = [115, 117, 98] then (if a ≤ b then 0 else 30)
  else if o = [110, 111, 110, 101] then (if a = 0 then 0 else 30)
  else if o = [117, 110, 105, 111, 110] then (if d = a ||| b then 0 else 30)
  else if o = [105, 110, 116, 101, 114] then (if d = a &&& b then 0 else 30)
  else if o = [109, 105, 110, 117, 115] then (if d = a - b then 0 else 30)
  else if o = [102, 108, 97, 103] then (if s = 1 ∨ a = 1 then 1 else 30)
  else if o = [115, 105, 110, 103] then (if 1 < s + a then 30 else s + a)
  else if o = [110, 117, 109] then (if s = n + 1 ∧ a = 0 then s else if n < s ∨ (s < n ∧ a = 1) ∨ (s = n ∧ a = 0) then 30 else s + 1)
  else if o = [108, 101, 115, 115] then (if a + b = 0 then s else if s = 0 ∧ a = 1 ∧ b = 0 then 1 else if s = 1 ∧ a = 0 ∧ b = 1 then 2 else 30)
  else if o = [112, 108, 117, 115] then
    (if s = n + 1 ∨ (s = 0 ∧ a = 0) then (if a + b = 0 then s else 30)
     else if s = 0 ∧ n = 0 then (if b = 1 then 1 else 30)
     else if s = 0 then (if b = 0 then 1 else 30)
     else if a = 1 ∨ (s < n ∧ b = 1) ∨ (s = n ∧ b = 0) then 30 else s + 1)
  else 0
def MB(o:List Nat)(n s:Nat):Bool:=
 if s=30 then false
 else if o=[102,108,97,103]∨o=[115,105,110,103]then decide (s=1)
 else if o=[108,101,115,115]then decide (s=2)
 else if o=[112,108,117,115]∨o=[110,117,109]then decide (s=n+1)
 else true
def Bc(l v:Nat):Nat:=l/2^v % 2
def EW(o:List Nat)(n a b d s l:Nat):Nat:=min (X3 o n s (Bc l a) (Bc l b) (Bc l d)) 30
def VV(o:List Nat)(a b d n k:Nat):Au:=⟨k,(List.range 31).map (MB o n),(List.range 31).map fun s=>(List.range (2^k)).map fun l=>((EW o n a b d s l:Nat):Int)⟩
section
variable {o:List Nat} {a b d n k:Nat}
theorem D4{s l:Nat}(hs:s<31)(hl:l<2^k):(VV o a b d n k).go s l=EW o n a b d s l:=by
 unfold Au.go VV;simp only[List.getElem?_map,List.getElem?_range hs,Option.map_some,Option.getD_some,List.getElem?_range hl,Int.toNat_natCast]
theorem D3{s:Nat}(hs:s<31):(VV o a b d n k).ok s=MB o n s:=by
 unfold Au.ok VV;simp only[List.getElem?_map,List.getElem?_range hs,Option.map_some,Option.getD_some]
theorem Kp(s l:Nat):EW o n a b d s l<31:=by unfold EW;omega
theorem M1(w:List Nat): ∀{s:Nat},s<31→HD (2^k) w→(VV o a b d n k).run s w=w.foldl (EW o n a b d) s:=by
 induction w with
 |nil=>intro s _ _;rfl
 |cons c w ih=>
  intro s hs hw;rw[Au.Kz,D4 hs (hw c Q0),ih (Kp s c) fun x hx=>hw x (by simp[hx])];rfl
end
inductive Jn:Cr→Nat→Au→Nat→Prop
 |atom {o:List Nat} {a b d n:Int} {k:Nat} {m:Au} (h1:o≠[110,111,116]) (h2:o≠[97,110,100]) (h3:o≠[101,120]) (h:Jm (VV o a.toNat b.toNat d.toNat n.toNat k) m):Jn (.mk o a b d n []) k m m.n
 |not {o:List Nat} {a b d n:Int} {x:Cr} {k s:Nat} {p m:Au} (ho:o=[110,111,116]) (hx:Jn x k p s) (h:Jm p.neg m):Jn (.mk o a b d n [x]) k m (s+m.n)
 |and {o:List Nat} {a b d n:Int} {x y:Cr} {k s t:Nat} {p q r m:Au} {lp:List (Nat×Nat)} (ho:o=[97,110,100]) (hx:Jn x k p s) (hy:Jn y k q t) (hb:OF p q 8 lp r) (h:Jm r m):Jn (.mk o a b d n [x,y]) k m (s+t+m.n)
 |ex {o:List Nat} {a b d n:Int} {x:Cr} {k s:Nat} {p r m:Au} {acc:List Bool} {L:List (List Int)} (ho:o=[101,120]) (hx:Jn x (k+1) p s) (hc:Aj p k acc) (hm:Uu (UB p k) [0] (anyS acc) L r) (ht:r.tr=k) (h:Jm r m):Jn (.mk o a b d n [x]) k m (s+m.n)
section
variable {c x y:Cr} {k s t:Nat} {m p q:Au}
theorem Jn.least(h:Jn c k m s): ∃r,Jm r m:=by cases h<;>exact⟨_,‹Jm _ m›⟩
theorem Jn.canon(h:Jn c k m s):Canon m:=by obtain⟨r,h⟩:=h.least;exact h.canon
theorem Jn.wf(h:Jn c k m s):ZX m:=h.canon.wf
theorem Jn.tr(h:Jn c k m s):m.tr=k:=by
 induction h with
 |atom _ _ _ h=>exact h.tr
 |not _ hx h ih=>exact h.tr.trans ih
 |and _ hx hy hb h ih1 ih2=>exact h.tr.trans (hb.2.trans ih1)
 |ex _ hx hc hm ht h ih=>exact h.tr.trans ht
theorem Jn.uniq(h:Jn c k m s): ∀{m':Au} {s':Nat},Jn c k m' s'→m=m'∧s=s':=by
 induction h with
 |atom h1 h2 h3 h=>
  intro m' s' h'
  cases h' with
  |atom _ _ _ h'=>
   have e:=h.uniq h' rfl (ZZ.refl _ _);subst e;exact⟨rfl,rfl⟩
 |not ho hx h ih=>
  intro m' s' h'
  cases h' with
  |not ho' hx' h'=>
   obtain⟨rfl,rfl⟩:=ih hx';have e:=h.uniq h' rfl (ZZ.refl _ _);subst e;exact⟨rfl,rfl⟩
  |ex ho'=>rw[ho]at ho';simp at ho'
 |and ho hx hy hb h ih1 ih2=>
  intro m' s' h'
  cases h' with
  |and ho' hx' hy' hb' h'=>
   obtain⟨rfl,rfl⟩:=ih1 hx';obtain⟨rfl,rfl⟩:=ih2 hy'
   have e:=h.uniq h' (by rw[hb.2,hb'.2]) fun w hw=>by
    have hp:=E6 hb.2 hw;rw[hb.P3 hp,hb'.P3 hp]
   subst e;exact⟨rfl,rfl⟩
 |ex ho hx hc hm ht h ih=>
  intro m' s' h'
  cases h' with
  |not ho'=>rw[ho]at ho';simp at ho'
  |ex ho' hx' hc' hm' ht' h'=>
   obtain⟨rfl,rfl⟩:=ih hx';obtain rfl:=hc.uniq hc'
   have e:=h.uniq h' (by rw[ht,ht']) fun w hw=>by
    rw[hm.P3 hw,hm'.P3 (E6 (ht.trans ht'.symm) hw)]
   subst e;exact⟨rfl,rfl⟩
end
section
variable {α β:Type} {δ:α→Nat→α} {δ':β→Nat→β} {s0:α} {pr:α→Bool} {pr':β→Bool} {l:List α} {m:Au}
end
section
variable {x y:Cr} {k s:Nat} {m:Au}
end
end
section
variable {a:Au} {n:Nat} {out:List Int}

theorem Canon.reach(C:Canon a){Q:Nat→Prop}(h0:Q 0)(hs: ∀s c,Q s→s<a.n→c<a.K→Q (a.go s c)): ∀k,k<a.n→Q k:=by
 intro k
 induction k using Nat.strongRecOn with
 |_ k ih=>
  intro hk
  by_cases h:k=0
  ·subst h;exact h0
  ·obtain⟨i,c,h1,h2,h3,_⟩:=C.first k Qe hk;have:=hs i c (ih i h1 Qe) Qe h2
   rwa [h3]at this
def NC(a:Au)(n:Nat)(out:List Int)(s:Nat):List Int:=
 if cv out s<0∧((a.nx[s]?).getD []).any (fun t=>decide (cv out t.toNat=((n:Nat):Int)))=true then out.set s (((n+1:Nat)):Int)else out
def VL(a:Au)(n:Nat)(out:List Int)(k:Nat):List Int:=(List.range k).foldl (NC a n) out
def CS(a:Au):List Int:=a.acc.map fun b=>if b then 0 else-1
def Zl(a:Au)(k:Nat):List Int:=(List.range k).foldl (fun out n=>VL a n out a.n) (CS a)
theorem uw{s:Nat}:(NC a n out s).length=out.length:=by
 unfold NC;split
 ·exact List.length_set
 ·rfl
theorem Lp{a:Au}{n:Nat}{out:List Int}: ∀k,(VL a n out k).length=out.length
 |0=>rfl
 |k+1=>by unfold VL;rw[List.range_succ,List.foldl_append];exact uw.trans (Lp k)
theorem EB{k:Nat}:VL a n out (k+1)=NC a n (VL a n out k) k:=by
 unfold VL;rw[List.range_succ,List.foldl_append];rfl
theorem H2{k:Nat}:Zl a (k+1)=VL a k (Zl a k) a.n:=by
 unfold Zl;rw[List.range_succ,List.foldl_append];rfl
theorem VM{a:Au}: ∀k,(Zl a k).length=a.n
 |0=>by simp[Zl,CS]
 |k+1=>by rw[H2,Lp,VM k]
theorem uv{s:Nat}{B:Int}(hb:((n+1:Nat):Int)≤B)(h: ∀z∈out,-1≤z∧z≤B): ∀z∈NC a n out s,-1≤z∧z≤B:=by
 unfold NC;split
 ·intro z hz;rcases List.mem_or_eq_of_mem_set hz with hz|rfl
  ·exact h z hz
  ·omega
 ·exact h
theorem CQ{a:Au}{n:Nat}{out:List Int}{B:Int}(hb:((n+1:Nat):Int)≤B)(h: ∀z∈out,-1≤z∧z≤B): ∀k,∀z∈VL a n out k,-1≤z∧z≤B
 |0=>h
 |k+1=>by rw[EB];exact uv hb (CQ hb h k)
theorem CR{a:Au}{B:Int}: ∀k,((k:Nat):Int)≤B→ ∀z∈Zl a k,-1≤z∧z≤B
 |0,hb=>by
  intro z hz;unfold Zl CS at hz;obtain⟨b,_,rfl⟩:=List.mem_map.1 hz
  split<;>omega
 |k+1,hb=>by rw[H2];exact CQ hb (CR k Qe) _
def xG(p:Int→Bool):List Int→Nat→Option Nat
 |[],_=>none
 |z::l,i=>if p z then some i else xG p l (i+1)
def AW(a:Au)(far:List Int):Nat→Nat→Option (List Nat)
 |0,_=>none
 |f+1,s=>if cv far s≤0 then some []else match xG (fun t=>decide (cv far t.toNat=cv far s-1)) ((a.nx[s]?).getD []) 0 with
  |none=>none
  |some c=>match AW a far f (a.go s c)with
   |none=>none
   |some w=>some (c::w)
def Z2(a:Au):Option (List Nat):=if a.acc.any id then AW a (Zl a a.n) 401 0 else none
end
section
variable {s:Nat}

def Jt:List Int→List Int→List Int
 |seen,[]=>seen
 |seen,x::xs=>if x∈seen then Jt seen xs else Jt (seen++[x]) xs
theorem E2: ∀(xs seen:List Int),(Jt seen xs).length≤seen.length+xs.length
 |[],seen=>by simp[Jt]
 |x::xs,seen=>by
  rw[Jt]
  split
  ·have:=E2 xs seen;simp only[List.length_cons];omega
  ·have:=E2 xs (seen++[x]);simp only[List.length_cons,List.length_append,List.length_nil]at this ⊢;omega
theorem IH: ∀(xs seen:List Int) {x:Int} {i:Nat},seen.Nodup→(Jt seen xs)[i]? =some x→Jw seen (xs++[x])=Jw seen xs++[((i:Nat):Int)]∧Jt seen (xs++[x])=Jt seen xs
 |[],seen,x,i,hn,h=>by
  have h:seen[i]? =some x:=h;have hm:=List.mem_of_getElem? h
  have hi:seen.idxOf x=i:=by
   have hlt:=List.idxOf_lt_length_of_mem hm;exact(List.getElem?_inj hlt hn).1 (by rw[List.getElem?_eq_getElem hlt,List.getElem_idxOf,h])
  rw[List.nil_append];unfold Jw Jt;rw[if_pos hm,if_pos hm,hi];exact⟨rfl,rfl⟩
 |y::xs,seen,x,i,hn,h=>by
  rw[Jt]at h;rw[List.cons_append,Jw,Jw,Jt,Jt]
  split at h
  ·rename_i hy;obtain⟨h1,h2⟩:=IH xs seen hn h;rw[if_pos hy,if_pos hy,if_pos hy,if_pos hy,h1,h2];exact⟨rfl,rfl⟩
  ·rename_i hy;have hn':(seen++[y]).Nodup:=List.nodup_append.2 ⟨hn,by simp,fun a ha b hb e=>by rw[List.mem_singleton]at hb;subst hb e;exact hy ha⟩;obtain⟨h1,h2⟩:=IH xs _ hn' h;rw[if_neg hy,if_neg hy,if_neg hy,if_neg hy,h1,h2];exact⟨rfl,rfl⟩
theorem II: ∀(xs seen:List Int) {x:Int},x∉Jt seen xs→Jw seen (xs++[x])=Jw seen xs++[(((Jt seen xs).length:Nat):Int)]∧Jt seen (xs++[x])=Jt seen xs++[x]
 |[],seen,x,h=>by
  have h:x∉seen:=h;rw[List.nil_append];unfold Jw Jt;rw[if_neg h,if_neg h];exact⟨rfl,rfl⟩
 |y::xs,seen,x,h=>by
  rw[Jt]at h;rw[List.cons_append,Jw,Jw,Jt,Jt]
  split at h
  ·rename_i hy;obtain⟨h1,h2⟩:=II xs seen h;rw[if_pos hy,if_pos hy,if_pos hy,if_pos hy,h1,h2];exact⟨rfl,rfl⟩
  ·rename_i hy;obtain⟨h1,h2⟩:=II xs _ h;rw[if_neg hy,if_neg hy,if_neg hy,if_neg hy,h1,h2];exact⟨rfl,rfl⟩
theorem GP{l:List Int}{x:Int}(h:s<l.length):cv (l++[x]) s=cv l s:=by unfold cv;rw[List.getElem?_append_left h]
theorem GO(l:List Int)(x:Int):cv (l++[x]) l.length=x:=by unfold cv;rw[List.getElem?_append_right (Nat.le_refl _),Nat.sub_self];rfl
theorem Cj(n:Nat): ∀xs:List Int,xs.length=n→aQ n (Jw [] xs) (Jt [] xs).length:=by
 induction n with
 |zero=>
  intro xs h;have:=List.eq_nil_of_length_eq_zero h;subst this;exact⟨fun s hs=>absurd hs (Nat.not_lt_zero s),fun v hv=>absurd hv (Nat.not_lt_zero v)⟩
 |succ n ih=>
  intro xs h;obtain⟨ys,x,rfl⟩: ∃ys x,xs=ys++[x]:=⟨xs.dropLast,xs.getLast (by intro e;subst e;simp at h),(List.dropLast_concat_getLast _).symm⟩
  have hl:ys.length=n:=by simpa using h
  obtain⟨h1,h2⟩:=ih ys hl
  have hnl:(Jw [] ys).length=n:=by rw[ZR];exact hl
  by_cases hx:x∈Jt [] ys
  ·obtain⟨i,hi⟩:=List.getElem?_of_mem hx;have hlt:=(List.getElem?_eq_some_iff.1 hi).1;obtain⟨e1,e2⟩:=IH ys [] List.nodup_nil hi;rw[e1,e2];refine⟨fun s hs=>?_,fun v hv=>?_⟩
   ·by_cases hsn:s<n
    ·rw[GP Qe];exact h1 s hsn
    ·have:s=(Jw [] ys).length:=by omega
     rw[this,GO];omega
   ·obtain⟨s,k1,k2⟩:=h2 v hv;exact⟨s,by omega,by rw[GP Qe];exact k2⟩
  ·obtain⟨e1,e2⟩:=II ys [] hx;rw[e1,e2,List.length_append,List.length_singleton];refine⟨fun s hs=>?_,fun v hv=>?_⟩
   ·by_cases hsn:s<n
    ·rw[GP Qe];have:=h1 s hsn;omega
    ·have:s=(Jw [] ys).length:=by omega
     rw[this,GO];omega
   ·by_cases hvl:v<(Jt [] ys).length
    ·obtain⟨s,k1,k2⟩:=h2 v hvl;exact⟨s,by omega,by rw[GP Qe];exact k2⟩
    ·refine⟨n,Nat.lt_succ_self n,?_⟩;rw[←hnl,GO];omega
theorem PS{α:Type}{l:List α}{f:α→Int}{x:α}(h:l[s]? =some x):cv (l.map f) s=f x:=by unfold cv;rw[List.getElem?_map,h];rfl
theorem qR{n r q c d:Int}(hc:0≤c∧c<n)(hd:0≤d∧d<n):(r *n+c=q *n+d)↔r=q∧c=d:=by
 refine⟨fun h=>?_,fun⟨h1,h2⟩=>by rw[h1,h2]⟩
 have e:(r-q) *n=d-c:=by rw[Int.sub_mul];omega
 have hrq:r=q:=by
  rcases Int.lt_trichotomy r q with h1|h1|h1
  ·exfalso
   have:=Int.mul_le_mul_of_nonneg_right (show r-q≤ -1 by omega) (show 0≤n by omega);omega
  ·exact h1
  ·exfalso
   have:=Int.mul_le_mul_of_nonneg_right (show 1≤r-q by omega) (show 0≤n by omega);omega
 subst hrq;exact⟨rfl,by omega⟩
structure Zt(a:Au)(cl:List Int)(ls:List Nat)(rows:List (List Int))(row:List Int):Prop where
 pr:Vt (Dp a cl) (cv cl 0) (2^a.tr) (ls.map (cv cl)) rows row
 lt: ∀s∈ls,s<a.n
section
variable {a:Au} {cl:List Int} {ls:List Nat} {rows:List (List Int)} {row:List Int}
theorem Zt.le(H:Zt a cl ls rows row)(hr: ∀s,s<a.n→0≤cv cl s∧cv cl s<((a.n:Nat):Int)):ls.length≤a.n:=by
 have h:=X9 (b:=(List.range a.n).map fun z=>((z:Nat):Int)) H.pr.nodup fun x hx=>by
  obtain⟨s,hs,rfl⟩:=List.mem_map.1 hx;have:=hr s (H.lt s hs);exact List.mem_map.2 ⟨(cv cl s).toNat,List.mem_range.2 Qe,by omega⟩
 simpa using h
theorem Zt.start(W:ZX a):Zt a cl [0] [] []:=⟨Vt.start _ _ _,fun s hs=>by rw[List.mem_singleton.1 hs];exact W.pos⟩
theorem Zt.next(W:ZX a)(hc:XN a cl){y:Nat}(hs:ls[rows.length]? =some s)(hls:s<a.n)(hr:row.length<2^a.tr)(hy:a.go s row.length=y):(ls.map (cv cl))[rows.length]? =some (cv cl s)∧Dp a cl (cv cl s) row.length=cv cl y:=by
 refine⟨by rw[List.getElem?_map,hs];rfl,?_⟩;rw[GW (hc.Ks W) hls hr,hy]
theorem Zt.new(H:Zt a cl ls rows row)(W:ZX a)(hc:XN a cl){s y:Nat}(hs:ls[rows.length]? =some s)(hr:row.length<2^a.tr)(hy:a.go s row.length=y)(hyn:y<a.n)(hn:cv cl y∉ls.map (cv cl)):Zt a cl (ls++[y]) rows (row++[((ls.length:Nat):Int)]):=by
 obtain⟨h1,h2⟩:=Zt.next W hc hs (H.lt s (List.mem_of_getElem? hs)) hr hy;have h4:=H.pr.new hr h1 (by rw[h2];exact hn);rw[h2,List.length_map]at h4;refine⟨by rw[List.map_append];exact h4,fun t ht=>?_⟩;rcases List.mem_append.1 ht with ht|ht
 ·exact H.lt t ht
 ·rw[List.mem_singleton.1 ht];exact hyn
theorem Zt.Jx(H:Zt a cl ls rows row)(W:ZX a)(hc:XN a cl){s y j:Nat}(hs:ls[rows.length]? =some s)(hr:row.length<2^a.tr)(hy:a.go s row.length=y)(hj:(ls.map (cv cl))[j]? =some (cv cl y)):Zt a cl ls rows (row++[((j:Nat):Int)]):=by
 obtain⟨h1,h2⟩:=Zt.next W hc hs (H.lt s (List.mem_of_getElem? hs)) hr hy;exact⟨H.pr.Jx hr h1 (by rw[h2];exact hj),H.lt⟩
theorem Zt.whole(H:Zt a cl ls rows row)(hr:row.length=2^a.tr):Zt a cl ls (rows++[row]) []:=⟨H.pr.whole hr,H.lt⟩
theorem Zt.made(H:Zt a cl ls rows [])(W:ZX a)(hc:XN a cl)(hn:ls.length≤400)(hl:rows.length=ls.length):Uu (Dp a cl) (cv cl 0) (xU a cl) (ls.map (cv cl)) ⟨a.tr,ls.map a.ok,rows⟩:=by
 refine H.pr.made (m:=⟨a.tr,ls.map a.ok,rows⟩) (by rw[List.length_map];exact hl) ?_ W.tr (by rw[List.length_map];exact hn);show ls.map a.ok=(ls.map (cv cl)).map (xU a cl);rw[List.map_map];exact List.map_congr_left fun s hs=>(Su hc (H.lt s hs)).symm
theorem Zt.least(H:Zt a cl ls rows [])(W:ZX a)(hc:XN a cl)(hn:ls.length≤400)(hl:rows.length=ls.length):Jm a ⟨a.tr,ls.map a.ok,rows⟩:=by
 obtain⟨h1,h2⟩:=T9 (m:=⟨a.tr,ls.map a.ok,rows⟩) W hc rfl (H.made W hc hn hl);exact⟨h1,h2,rfl⟩
end
end
end Go.Proofs.YtildagdnomiahaaGreatDoor
