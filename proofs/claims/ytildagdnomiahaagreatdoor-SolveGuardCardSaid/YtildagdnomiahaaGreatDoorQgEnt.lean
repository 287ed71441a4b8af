/-
  Numbers as they come, one more; classes by numbers (chapter 24).
-/
import Derived.Test.YtildagdnomiahaaGreatDoorQgLkP
set_option linter.unusedVariables false
namespace Go.Proofs.YtildagdnomiahaaGreatDoor
section
variable {s:Nat}

def Jt:List Int→List Int→List Int
 |seen,[]=>seen
 |seen,x::xs=>if x∈seen then Jt seen xs else Jt (seen++[x]) xs
theorem Em: ∀(xs seen:List Int),(Jt seen xs).length≤seen.length+xs.length
 |[],seen=>by simp[Jt]
 |x::xs,seen=>by
  rw[Jt]
  split
  ·have:=Em xs seen;simp only[List.length_cons];omega
  ·have:=Em xs (seen++[x]);simp only[List.length_cons,List.length_append,List.length_nil]at this ⊢;omega
theorem I1: ∀(xs seen:List Int) {x:Int} {i:Nat},seen.Nodup→(Jt seen xs)[i]? =some x→Jy seen (xs++[x])=Jy seen xs++[((i:Nat):Int)]∧Jt seen (xs++[x])=Jt seen xs
 |[],seen,x,i,hn,h=>by
  have h:seen[i]? =some x:=h;have hm:=List.mem_of_getElem? h
  have hi:seen.idxOf x=i:=by
   have hlt:=List.idxOf_lt_length_of_mem hm;exact(List.getElem?_inj hlt hn).1 (by rw[List.getElem?_eq_getElem hlt,List.getElem_idxOf,h])
  rw[List.nil_append];unfold Jy Jt;rw[if_pos hm,if_pos hm,hi];exact⟨rfl,rfl⟩
 |y::xs,seen,x,i,hn,h=>by
  rw[Jt]at h;rw[List.cons_append,Jy,Jy,Jt,Jt]
  split at h
  ·rename_i hy;obtain⟨h1,h2⟩:=I1 xs seen hn h;rw[if_pos hy,if_pos hy,if_pos hy,if_pos hy,h1,h2];exact⟨rfl,rfl⟩
  ·rename_i hy;have hn':(seen++[y]).Nodup:=List.nodup_append.2 ⟨hn,by simp,fun a ha b hb e=>by rw[List.mem_singleton]at hb;subst hb e;exact hy ha⟩;obtain⟨h1,h2⟩:=I1 xs _ hn' h;rw[if_neg hy,if_neg hy,if_neg hy,if_neg hy,h1,h2];exact⟨rfl,rfl⟩
theorem I2: ∀(xs seen:List Int) {x:Int},x∉Jt seen xs→Jy seen (xs++[x])=Jy seen xs++[(((Jt seen xs).length:Nat):Int)]∧Jt seen (xs++[x])=Jt seen xs++[x]
 |[],seen,x,h=>by
  have h:x∉seen:=h;rw[List.nil_append];unfold Jy Jt;rw[if_neg h,if_neg h];exact⟨rfl,rfl⟩
 |y::xs,seen,x,h=>by
  rw[Jt]at h;rw[List.cons_append,Jy,Jy,Jt,Jt]
  split at h
  ·rename_i hy;obtain⟨h1,h2⟩:=I2 xs seen h;rw[if_pos hy,if_pos hy,if_pos hy,if_pos hy,h1,h2];exact⟨rfl,rfl⟩
  ·rename_i hy;obtain⟨h1,h2⟩:=I2 xs _ h;rw[if_neg hy,if_neg hy,if_neg hy,if_neg hy,h1,h2];exact⟨rfl,rfl⟩
theorem Gk{l:List Int}{x:Int}(h:s<l.length):cv (l++[x]) s=cv l s:=by unfold cv;rw[List.getElem?_append_left h]
theorem Gj(l:List Int)(x:Int):cv (l++[x]) l.length=x:=by unfold cv;rw[List.getElem?_append_right (Nat.le_refl _),Nat.sub_self];rfl
theorem Bv(n:Nat): ∀xs:List Int,xs.length=n→vj n (Jy [] xs) (Jt [] xs).length:=by
 induction n with
 |zero=>
  intro xs h;have:=List.eq_nil_of_length_eq_zero h;subst this;exact⟨fun s hs=>absurd hs (Nat.not_lt_zero s),fun v hv=>absurd hv (Nat.not_lt_zero v)⟩
 |succ n ih=>
  intro xs h;obtain⟨ys,x,rfl⟩: ∃ys x,xs=ys++[x]:=⟨xs.dropLast,xs.getLast (by intro e;subst e;simp at h),(List.dropLast_concat_getLast _).symm⟩
  have hl:ys.length=n:=by simpa using h
  obtain⟨h1,h2⟩:=ih ys hl
  have hnl:(Jy [] ys).length=n:=by rw[ZJ];exact hl
  by_cases hx:x∈Jt [] ys
  ·obtain⟨i,hi⟩:=List.getElem?_of_mem hx;have hlt:=(List.getElem?_eq_some_iff.1 hi).1;obtain⟨e1,e2⟩:=I1 ys [] List.nodup_nil hi;rw[e1,e2];refine⟨fun s hs=>?_,fun v hv=>?_⟩
   ·by_cases hsn:s<n
    ·rw[Gk Qe];exact h1 s hsn
    ·have:s=(Jy [] ys).length:=by omega
     rw[this,Gj];omega
   ·obtain⟨s,k1,k2⟩:=h2 v hv;exact⟨s,by omega,by rw[Gk Qe];exact k2⟩
  ·obtain⟨e1,e2⟩:=I2 ys [] hx;rw[e1,e2,List.length_append,List.length_singleton];refine⟨fun s hs=>?_,fun v hv=>?_⟩
   ·by_cases hsn:s<n
    ·rw[Gk Qe];have:=h1 s hsn;omega
    ·have:s=(Jy [] ys).length:=by omega
     rw[this,Gj];omega
   ·by_cases hvl:v<(Jt [] ys).length
    ·obtain⟨s,k1,k2⟩:=h2 v hvl;exact⟨s,by omega,by rw[Gk Qe];exact k2⟩
    ·refine⟨n,Nat.lt_succ_self n,?_⟩;rw[←hnl,Gj];omega
theorem Pd{α:Type}{l:List α}{f:α→Int}{x:α}(h:l[s]? =some x):cv (l.map f) s=f x:=by unfold cv;rw[List.getElem?_map,h];rfl
theorem Mk{n r q c d:Int}(hc:0≤c∧c<n)(hd:0≤d∧d<n):(r *n+c=q *n+d)↔r=q∧c=d:=by
 refine⟨fun h=>?_,fun⟨h1,h2⟩=>by rw[h1,h2]⟩
 have e:(r-q) *n=d-c:=by rw[Int.sub_mul];omega
 have hrq:r=q:=by
  rcases Int.lt_trichotomy r q with h1|h1|h1
  ·exfalso
   have:=Int.mul_le_mul_of_nonneg_right (show r-q≤ -1 by omega) (show 0≤n by omega);omega
  ·exact h1
  ·exfalso
   have:=Int.mul_le_mul_of_nonneg_right (show 1≤r-q by omega) (show 0≤n by omega);omega
 subst hrq;exact⟨rfl,by omega⟩
structure Zk(a:Au)(cl:List Int)(ls:List Nat)(rows:List (List Int))(row:List Int):Prop where
 pr:Vg (Cx a cl) (cv cl 0) (2^a.tr) (ls.map (cv cl)) rows row
 lt: ∀s∈ls,s<a.n
section
variable {a:Au} {cl:List Int} {ls:List Nat} {rows:List (List Int)} {row:List Int}
theorem Zk.le(H:Zk a cl ls rows row)(hr: ∀s,s<a.n→0≤cv cl s∧cv cl s<((a.n:Nat):Int)):ls.length≤a.n:=by
 have h:=Xy (b:=(List.range a.n).map fun z=>((z:Nat):Int)) H.pr.nodup fun x hx=>by
  obtain⟨s,hs,rfl⟩:=List.mem_map.1 hx;have:=hr s (H.lt s hs);exact List.mem_map.2 ⟨(cv cl s).toNat,List.mem_range.2 Qe,by omega⟩
 simpa using h
theorem Zk.start(W:ZP a):Zk a cl [0] [] []:=⟨Vg.start _ _ _,fun s hs=>by rw[List.mem_singleton.1 hs];exact W.pos⟩
theorem Zk.next(W:ZP a)(hc:XD a cl){y:Nat}(hs:ls[rows.length]? =some s)(hls:s<a.n)(hr:row.length<2^a.tr)(hy:a.go s row.length=y):(ls.map (cv cl))[rows.length]? =some (cv cl s)∧Cx a cl (cv cl s) row.length=cv cl y:=by
 refine⟨by rw[List.getElem?_map,hs];rfl,?_⟩;rw[Gp (hc.IX W) hls hr,hy]
theorem Zk.new(H:Zk a cl ls rows row)(W:ZP a)(hc:XD a cl){s y:Nat}(hs:ls[rows.length]? =some s)(hr:row.length<2^a.tr)(hy:a.go s row.length=y)(hyn:y<a.n)(hn:cv cl y∉ls.map (cv cl)):Zk a cl (ls++[y]) rows (row++[((ls.length:Nat):Int)]):=by
 obtain⟨h1,h2⟩:=Zk.next W hc hs (H.lt s (List.mem_of_getElem? hs)) hr hy;have h4:=H.pr.new hr h1 (by rw[h2];exact hn);rw[h2,List.length_map]at h4;refine⟨by rw[List.map_append];exact h4,fun t ht=>?_⟩;rcases List.mem_append.1 ht with ht|ht
 ·exact H.lt t ht
 ·rw[List.mem_singleton.1 ht];exact hyn
theorem Zk.J0(H:Zk a cl ls rows row)(W:ZP a)(hc:XD a cl){s y j:Nat}(hs:ls[rows.length]? =some s)(hr:row.length<2^a.tr)(hy:a.go s row.length=y)(hj:(ls.map (cv cl))[j]? =some (cv cl y)):Zk a cl ls rows (row++[((j:Nat):Int)]):=by
 obtain⟨h1,h2⟩:=Zk.next W hc hs (H.lt s (List.mem_of_getElem? hs)) hr hy;exact⟨H.pr.J0 hr h1 (by rw[h2];exact hj),H.lt⟩
theorem Zk.whole(H:Zk a cl ls rows row)(hr:row.length=2^a.tr):Zk a cl ls (rows++[row]) []:=⟨H.pr.whole hr,H.lt⟩
theorem Zk.made(H:Zk a cl ls rows [])(W:ZP a)(hc:XD a cl)(hn:ls.length≤400)(hl:rows.length=ls.length):Ur (Cx a cl) (cv cl 0) (y9 a cl) (ls.map (cv cl)) ⟨a.tr,ls.map a.ok,rows⟩:=by
 refine H.pr.made (m:=⟨a.tr,ls.map a.ok,rows⟩) (by rw[List.length_map];exact hl) ?_ W.tr (by rw[List.length_map];exact hn);show ls.map a.ok=(ls.map (cv cl)).map (y9 a cl);rw[List.map_map];exact List.map_congr_left fun s hs=>(Rt hc (H.lt s hs)).symm
theorem Zk.least(H:Zk a cl ls rows [])(W:ZP a)(hc:XD a cl)(hn:ls.length≤400)(hl:rows.length=ls.length):Jo a ⟨a.tr,ls.map a.ok,rows⟩:=by
 obtain⟨h1,h2⟩:=Sp (m:=⟨a.tr,ls.map a.ok,rows⟩) W hc rfl (H.made W hc hn hl);exact⟨h1,h2,rfl⟩
end
end
section
open Go Go.RowKit

def Ud{α:Type}:Nat→List α→List (α×AV)
 |_,[]=>[]
 |j,n::S=>(n,.int .i64 (j:Nat))::Ud (j+1) S
section
variable {α β:Type}
theorem E3: ∀(j:Nat) (S:List α) (n:α),Ud j (S++[n])=Ud j S++[(n,.int .i64 (j+S.length:Nat))]
 |j,[],n=>by simp[Ud]
 |j,x::S,n=>by
  rw[List.cons_append,Ud,Ud,E3 (j+1) S n,List.cons_append,List.length_cons,show j+1+S.length=j+(S.length+1) by omega]
theorem Cl: ∀{j:Nat} {S:List α} {n:α} {v:AV},(n,v)∈Ud j S→ ∃i:Nat,S[i]? =some n∧v=.int .i64 (j+i:Nat)
 |j,[],n,v,h=>by cases h
 |j,x::S,n,v,h=>by
  rcases List.mem_cons.1 h with e|h
  ·injection e with e1 e2
   subst e1 e2;exact⟨0,rfl,rfl⟩
  ·obtain⟨i,h1,h2⟩:=Cl h;exact⟨i+1,h1,by rw[h2];congr 2;omega⟩
theorem Bz: ∀{j:Nat} {S:List α} {n:α},n∈S→ ∃v,(n,v)∈Ud j S
 |j,[],n,h=>by cases h
 |j,x::S,n,h=>by
  rcases List.mem_cons.1 h with rfl|h
  ·exact⟨_,List.mem_cons_self ..⟩
  ·obtain⟨v,hv⟩:=Bz (j:=j+1) h;exact⟨v,List.mem_cons_of_mem _ hv⟩
theorem KB{S:List α}{n:α}(h:Uz (Ud 0 S) n=none):n∉S:=fun hm=>by
 obtain⟨v,hv⟩:=Bz (j:=0) hm;exact Kz h v hv
theorem KA{S:List α}{n:α}{v:AV}(h:Uz (Ud 0 S) n=some v): ∃i:Nat,S[i]? =some n∧v=.int .i64 (i:Nat):=by
 obtain⟨i,h1,h2⟩:=Cl (I5 h);exact⟨i,h1,by rw[h2,Nat.zero_add]⟩
theorem XF.comp{P:Program}{t:TypeId}{key:α→AV}{z:AV}(T:XF P t key z)(f:β→α)(hi: ∀x y,f x=f y→x=y):XF P t (fun x=>key (f x)) z:=by
 obtain⟨kt,et,d,u1,u2,u3,u4,u5,u6⟩:=T.rule;exact⟨kt,et,d,u1,u2,u3,fun a=>u4 _,fun a i=>u5 _ i,fun a b v n es i=>⟨fun h=>(u6 (f a) (f b) v n es i).1 (congrArg f h),fun h=>(u6 (f a) (f b) v n es i).2 fun e=>h (hi _ _ e)⟩⟩
end
abbrev Zm(p:Nat×Nat):AV:=.agg [.int .i64 (p.1:Nat),.int .i64 (p.2:Nat)]
theorem V8:XF Tryz.prog 286 Zm (.int .i64 0):=MX.comp (fun p:Nat×Nat=>(((p.1:Nat):Int),((p.2:Nat):Int))) fun x y e=>by
 injection e with e1 e2
 exact Prod.ext Qe Qe
end
end Go.Proofs.YtildagdnomiahaaGreatDoor
