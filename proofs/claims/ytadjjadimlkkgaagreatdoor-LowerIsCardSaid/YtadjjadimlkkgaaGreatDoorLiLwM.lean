/-
  Rows that are handed over grow and are cut; a range from behind over texts.
-/
import Derived.Test.YtadjjadimlkkgaaGreatDoorLiLwP
import Derived.Test.YtadjjadimlkkgaaGreatDoorLiRng
namespace Go.Proofs.YtadjjadimlkkgaaGreatDoor
open Go Go.RowKit
set_option linter.unusedVariables false
set_option linter.unusedSectionVars false
set_option maxHeartbeats 1000000

section
variable {P:Program} {G:Env} {h0:Hp} {n0 z:Nat} {X:List Nat} {st st':St} {M L A B:Qj} {ks:AV} {l:List (List Nat)} {ls:List (List AV)} {K:List (Nat×AV)}
theorem Mem.zm(hM:Mem h0 n0 X st (L++(A++B)))(hA:Acc 0 z A ks ls){t e:TypeId}(T:Hg P t e z){k2 c2 m2:Nat}{l2:List AV}(hk:(L++(A++B))[k2]? =some (c2,m2,l2))(hl:l2.length=z)(hb:ls.length+1≤1000000):
  ∃ks' A' st1,UA P [t,t] ks (.sl c2 m2 0 1 z) st=some (ks',st1)∧Acc 0 z A' ks' (ls++[l2])∧Mem h0 n0 X st1 (L++(A'++B)):=by
 cases hA with
 |none=>
  obtain⟨ks',A',st1,h1,h2,h3⟩:=hM.qw (A:=[]) .none T hk hl hb;exact⟨ks',A',st1,h1,h2.less (Nat.zero_le _),h3⟩
 |own h3 h4 h5=>
  rename_i c m;obtain⟨m',st1,h6,h7,_⟩:=hM.append T (z2:=z) (off2:=0) (n:=1) (NO L B _) (ZV h4) (hM.Wp hk).EJ (by omega) (by decide) hb;refine⟨_,[(c,m',(ls++[l2]).flatten)],st1,h6,?_,?_⟩
  ·have:=Acc.own (n0:=0) (c:=c) (m:=m') (ls:=ls++[l2]) (z:=z) (Nat.zero_le _) (fun cs hc=>by
    rcases List.mem_append.1 hc with hc|hc
    ·exact h4 cs hc
    ·rw[List.mem_singleton.1 hc];exact hl) (by simpa using hb)
   rw[List.length_append]at this;exact this
  ·rw[Ny,List.drop_zero,List.take_of_length_le (by omega)]at h7;rw[List.flatten_append,show [l2].flatten=l2 by simp];exact h7
theorem Mem.TY(hM:Mem h0 n0 X st M){t e:TypeId}{z:Nat}(T:Hg P t e z){k c m len c2 m2 off2 n z2:Nat}{l l2:List AV}(hk:M[k]? =some (c,m,l))(hl:len *z≤l.length)(hr2:Yy st.h.get c2 m2 l2)(hle:off2+n *z≤l2.length)(hn:0<n)(hb:len+n≤1000000):
  ∃m' st1,UA P [t,t] (.sl c m 0 len z) (.sl c2 m2 off2 n z2) st=some (.sl c m' 0 (len+n) z,st1)∧Mem h0 n0 X st1 (M.set k (c,m',l.take (len *z)++(l2.drop off2).take (n *z))):=by
 obtain⟨_,_,_,_,h,_⟩:=Zx T (s:=.sl c m 0 len z) (z2:=z2) hr2 hle;have hm0:=List.mem_of_getElem? hk;obtain⟨vs,ms,h1,h2⟩:=hM.row c m l hm0
 have hr:rowOf st.h.get c m=some (l.length,vs,l,false,ms):=by
  unfold rowOf;rw[h1,Qk];show ob (nth ms m) _=_;rw[Ur,h2];rfl
 have hbeq:Nat.beq n 0=false:=Cu (by omega);have hml:=(List.getElem?_eq_some_iff.1 h2).1;refine⟨ms.length,⟨st.n,st.h.set c (.row false (Y9 (vs+len *z) (vs+len *z+n *z) ms++[((l.take (len *z)++(l2.drop off2).take (n *z)).length,vs,some (l.take (len *z)++(l2.drop off2).take (n *z)))]))⟩,?_,?_⟩
 ·rw[h];simp only[T.c,Nat.beq_refl,Jj,hr,Qk,Bool.not_false,QX];rw[Xy _ _ _ (by rw[JM,List.drop_zero];omega),JM,List.drop_zero];simp only[hbeq,Q4,Nat.ble_eq_true_of_le hb,Jj,JX,Uc,Yr,UB,Nat.add_zero]
 ·have hg: ∀x C,(st.h.set c C).get x=if x=c then some C else st.h.get x:=fun x C=>Tr.Wf _ _ _ _
  refine hM.Ds hk ⟨fun x hx=>?_,Nat.le_refl _,fun x hx hX=>?_⟩ ⟨vs,_,(hg _ _).trans (if_pos rfl),?_⟩
  ·show(st.h.set c _).get x=none;have:=hM.lt c m l hm0;have hx:st.n≤x:=hx;rw[hg,if_neg (by omega)];exact hM.fresh x hx
  ·show(st.h.set c _).get x=_;rw[hg,if_neg (by simpa using hX)]
  ·rw[List.getElem?_append_right (by rw[Jz];exact Nat.le_refl _),Jz,Nat.sub_self];rfl
theorem Mem.yc(hM:Mem h0 n0 X st (L++(A++B)))(hA:US 0 A ks l){t e:TypeId}(T:Hg P t e 1){k2 c2 m2:Nat}{s:List Nat}(hk:(L++(A++B))[k2]? =some (c2,m2,[.str s]))(hb:l.length+1≤1000000):
  ∃ks' A' st1,UA P [t,t] ks (.sl c2 m2 0 1 1) st=some (ks',st1)∧US 0 A' ks' (l++[s])∧Mem h0 n0 X st1 (L++(A'++B)):=by
 cases hA with
 |none=>
  obtain⟨ks',A',st1,h1,h2,h3⟩:=hM.qw (A:=[]) .none T hk rfl (by simp);refine⟨ks',A',st1,h1,?_,h3⟩;generalize hg:([]++[[AV.str s]]:List (List AV))=ls at h2
  cases h2 with
  |none=>cases hg
  |own hc hz hb'=>
   subst hg;exact US.own (n0:=0) (l:=[s]) (rest:=[]) (Nat.zero_le _) (by simp)
 |own hc hb'=>
  rename_i c m rest
  have hlen:l.length *1≤((Kq l).flatten++rest).length:=by
   rw[List.length_append,ZV (Np l),Xp];omega
  obtain⟨m',st1,h6,h7⟩:=hM.TY T (z2:=1) (off2:=0) (n:=1) (NO L B _) hlen (hM.Wp hk).EJ (by simp) (by decide) hb
  have e1:l.length+1=(l++[s]).length:=by simp
  rw[e1]at h6;refine⟨_,[(c,m',(Kq (l++[s])).flatten++[])],st1,h6,.own (Nat.zero_le _) (by simpa using hb),?_⟩;rw[Ny]at h7
  have e2:((Kq l).flatten++rest).take (l.length *1)=(Kq l).flatten:=by
   rw[List.take_append_of_le_length (by rw[ZV (Np l),Xp];omega),List.take_of_length_le (by rw[ZV (Np l),Xp];omega)]
  rw[e2]at h7;rw[CF,List.flatten_append,List.append_nil];exact h7
theorem Mem.yb(hM:Mem h0 n0 X st (L++(A++B))){n1:Nat}(hA:US n1 A ks l):VK st.h.get [] 1 (Kq l) ks:=by
 cases hA with
 |none=>exact .nil _ _ _
 |own hc hb=>
  rename_i c m rest;have:=hM.row c m ((Kq l).flatten++rest) (by simp);rw[Rx]at this;exact jR this hb
theorem M8{n:Nat}(hA:US 0 A ks l)(hn:n≤l.length): ∃ks',US 0 A ks' (l.take n)∧ ∀{P:Program} {G:Env} {K:List (Nat×AV)} {st:St} {t:TypeId} {x:Operand} {hi:Option Operand},JI P t=some 1→Jy G K x=some ks→Ym (Jy G K) hi l.length=some n→Z1 P G K (.slice t x none hi none) st ks' st:=by
 cases hA with
 |none=>
  have:n=0:=by simpa using hn
  subst this;exact⟨.nils,.none,fun he hx hh=>DT he hx rfl hh⟩
 |own hc hb=>
  rename_i c m rest
  have e:(Kq l).flatten++rest=(Kq (l.take n)).flatten++((Kq (l.drop n)).flatten++rest):=by
   rw[←List.append_assoc,←List.flatten_append,←CF,List.take_append_drop]
  have el:(l.take n).length=n:=by rw[List.length_take];omega
  refine⟨.sl c m (0+0 *1) (n-0) 1,?_,fun he hx hh=>Ek (lo:=none) he hx rfl hh (Nat.zero_le _) hn⟩;rw[e,show n-0=(l.take n).length by rw[el];omega];exact US.own (n0:=0) (l:=l.take n) (Nat.zero_le _) (by omega)
end
section
variable {P:Program} {G:Env} {N:Nat} {T:Tr AV} {st:St} {Q:Ex→Tr AV→St→Prop} {h0:Hp} {n0 z:Nat} {X:List Nat} {L A B:Qj} {ks:AV} {l:List (List Nat)} {ls:List (List AV)} {ops rest:List Oper} {K:List (Nat×AV)} {R:Tr AV→St→Prop} {d:Nat} {ty:TypeId} {pos:String} {af:Array Edge}
theorem Mf{x y:Operand}{t e:TypeId}{c2 m2 k2:Nat}{s:List Nat}(hK:Jf K T)(hM:Mem h0 n0 X st (L++(A++B)))(hA:US 0 A ks l)(S:Hg P t e 1)(hx:Jy G K x=some ks)(hy:Jy G K y=some (.sl c2 m2 0 1 1))(hk:(L++(A++B))[k2]? =some (c2,m2,[.str s]))(hb:l.length+1≤1000000)(hN:Nat.ble (d+1) N=true)
  (hn: ∀(ks':AV) A' T' st',Jf ((d,ks')::K) T'→US 0 A' ks' (l++[s])→Mem h0 n0 X st' (L++(A'++B))→WR P G N ops rest R T' st'):WR P G N ops (⟨some d,.call {callee:=.builtin .append,args:= #[x,y],argTypes:= #[t,t]},ty,pos,af,none⟩::rest) R T st:=by
 obtain⟨ks',A',st1,h1,h2,h3⟩:=hM.yc hA S hk hb;exact FF hK (Xz rfl hx hy h1) (Nat.le_of_ble_eq_true hN) fun T' hT'=>hn ks' A' T' st1 hT' h2 h3
theorem Mi{sn:List St}{i:Nat}{rr:List (Nat×Nat)}{x y:Operand}{t e:TypeId}{c2 m2 k2:Nat}{s:List Nat}(ho:ops[i]? =some ⟨some d,.call {callee:=.builtin .append,args:= #[x,y],argTypes:= #[t,t]},ty,pos,af,none⟩)(hK:Jf K T)(hM:Mem h0 n0 X st (L++(A++B)))(hA:US 0 A ks l)(S:Hg P t e 1)(hx:Jy G K x=some ks)(hy:Jy G K y=some (.sl c2 m2 0 1 1))(hk:(L++(A++B))[k2]? =some (c2,m2,[.str s]))(hb:l.length+1≤1000000)(hN:Nat.ble (d+1) N=true)
  (hn: ∀(ks':AV) A' T' st',Jf ((d,ks')::K) T'→US 0 A' ks' (l++[s])→Mem h0 n0 X st' (L++(A'++B))→WD P G N ops (rr.map (EM ops)) R T' st' (st'::sn)):WD P G N ops (((i,0)::rr).map (EM ops)) R T st sn:=by
 obtain⟨ks',A',st1,h1,h2,h3⟩:=hM.yc hA S hk hb;exact Nj ho hK (Xz rfl hx hy h1) rfl (Nat.le_of_ble_eq_true hN) fun T' hT'=>hn ks' A' T' st1 hT' h2 h3
theorem Mj{sn:List St}{i:Nat}{rr:List (Nat×Nat)}{x y:Operand}{t e:TypeId}{c2 m2 k2:Nat}{l2:List AV}(ho:ops[i]? =some ⟨some d,.call {callee:=.builtin .append,args:= #[x,y],argTypes:= #[t,t]},ty,pos,af,none⟩)(hK:Jf K T)(hM:Mem h0 n0 X st (L++(A++B)))(hA:Acc 0 z A ks ls)(S:Hg P t e z)(hx:Jy G K x=some ks)(hy:Jy G K y=some (.sl c2 m2 0 1 z))(hk:(L++(A++B))[k2]? =some (c2,m2,l2))(hl:l2.length=z)(hb:ls.length+1≤1000000)(hN:Nat.ble (d+1) N=true)
  (hn: ∀(ks':AV) A' T' st',Jf ((d,ks')::K) T'→Acc 0 z A' ks' (ls++[l2])→Mem h0 n0 X st' (L++(A'++B))→WD P G N ops (rr.map (EM ops)) R T' st' (st'::sn)):WD P G N ops (((i,0)::rr).map (EM ops)) R T st sn:=by
 obtain⟨ks',A',st1,h1,h2,h3⟩:=hM.zm hA S hk hl hb;exact Nj ho hK (Xz rfl hx hy h1) rfl (Nat.le_of_ble_eq_true hN) fun T' hT'=>hn ks' A' T' st1 hT' h2 h3
theorem Ru{K0:List (Nat×AV)}{g:Operand}{ps:Array Tmp}{t1 t2 c:Nat}{a b:Code}{f:FuncId}{ks:AV}{ts te e:TypeId}{n:Nat}(hK:Jf K0 T)(hg:Jy G K0 g=some (.fn f [] [.ptr c 0 0]))(hp:Qi (JY a) (JY b) false=true)(hps:ps.toList=[t1,t2])(h1:Nat.ble (t1+1) N=true)(h2:Nat.ble (t2+1) N=true)
  (hb:G.b f=some (ts,te)) (hs:Jd P ts (.ptr c 0 0) st.h.get=some ks) (ht:P.underlying ts=some (.slice e)) (he:JI P ts=some 1) (hte:tk P te=.one) (hl:Yj ks=some n) (hn:(n:Int)≤9223372036854775807) (J:Nat→St→Prop) (h0:J n st)
  (hround: ∀i st1,i<n→J (i+1) st1→Jd P ts (.ptr c 0 0) st1.h.get=some ks∧ ∃X ls v,VK st1.h.get X 1 ls ks∧ls[i]? =some [v]∧ ∀T1,Jf ((t2,v)::(t1,.int .i64 ((i:Nat):Int))::K0) T1→W P G N a (fun e T' st'=>e=.nor∧W P G N b (Ou Q T (J i)) T' st') T1 st1)
  (hend: ∀st1,J 0 st1→Q .nor T st1):W P G N (.rangeFunc g ps a b) Q T st:=by
 refine CB (f:=f) (x:=.ptr c 0 0) (s0:=ks) hp hps h1 h2 (hK.QB hg) hb hs (qX ht hl) (by have:(UX:Int)=9223372036854775807:=rfl;omega) J h0 (fun i st1 hi hJ=>?_) hend;obtain⟨h3,X,ls,v,r,h4,h5⟩:=hround i st1 hi hJ;obtain⟨c',m,off,rfl,_,_,h7,_⟩:=r.load (P:=P) h4;have hi':i<ls.length:=(List.getElem?_eq_some_iff.1 h4).1;exact⟨_,_,_,h3,qZ he hi',h7 te 0 v hte rfl,h5 _ ((hK.set t1 _).set t2 _)⟩
end
end Go.Proofs.YtadjjadimlkkgaaGreatDoor
