/-
  slices.Sort and slices.Compact of rows of one's own.
-/
import Derived.Test.YtaomhhkflohhgaaGreatDoorMgTrN
set_option maxRecDepth 100000
set_option maxHeartbeats 8000000
set_option linter.unnecessarySimpa false
set_option linter.unusedSimpArgs false
set_option linter.unusedVariables false
namespace Go.Proofs.YtaomhhkflohhgaaGreatDoor
open Go Go.RowKit
section
variable {c m n0:Nat} {h0:Hp} {st:St}

def OH(s:List Nat):List UInt8:=s.map UInt8.ofNat
def xk(s:List UInt8):List Nat:=s.map UInt8.toNat
def AI(l:List (List Nat)):List (List Nat):=(Ht (l.map OH)).map xk
def AM(l:List (List Nat)):List (List Nat):=(Lib.compact (l.map OH)).map xk
theorem Fe(l:List (List Nat)):(Xq l).flatten=l.map AV.str:=by
 induction l with
 |nil=>rfl
 |cons s l ih=>rw[List.map_cons,←ih];rfl
theorem zQ(zs:List (List UInt8)):zs.map Pp=(Xq (zs.map xk)).flatten:=by
 rw[Fe,List.map_map];rfl
theorem Gz(zs:List (List UInt8)):(Ht zs).length=zs.length:=List.length_mergeSort _
theorem EH(l:List (List Nat)):(AI l).length=l.length:=by simp[AI,Gz]
theorem Mem.xg{M:List (Nat×Nat×List AV)}(hM:Mem h0 n0 [] st M){l:List AV}(h:(c,m,l)∈M):Jj st.h.get c m l:=hM.row c m l h
theorem Mem.uX{st':St}{L B:List (Nat×Nat×List AV)}{l l':List AV}(hM:Mem h0 n0 [] st (L++((c,m,l)::B)))(q:Ad [c] st st')(hr:Jj st'.h.get c m l'):Mem h0 n0 [] st' (L++((c,m,l')::B)):=by
 have hp:(L++(c,m,l)::B).Perm ((c,m,l)::(L++B)):=List.perm_middle;have h1:=hM.perm hp;have h2:=h1.J8 (k:=0) rfl q hr;exact Mem.perm (h2.cast (by rfl)) (List.perm_middle (l₁:=L) (l₂:=B) (a:=(c,m,l'))).symm
theorem qD{L A B:List (Nat×Nat×List AV)}{ks:AV}{l:List (List Nat)}(hM:Mem h0 n0 [] st (L++(A++B)))(hA:Acc n0 1 A ks (Xq l)):
  ∃v st' A',Ev Tryz.prog QR 119 [ks] st v st'∧v=.tup []∧Mem h0 n0 [] st' (L++(A'++B))∧Acc n0 1 A' ks (Xq (AI l)):=by
 have hlen:=hA.len;have hb:=hA.YZ;rw[J5]at hlen hb;generalize hg:Xq l=ls at hA
 cases hA with
 |none=>
  have hl:l=[]:=by
   have h:=congrArg List.length hg;rw[J5]at h;exact List.length_eq_zero_iff.1 h
  subst hl
  exact⟨_,st,[],Oj (V0:=fun _=>.tup []) (F:=Ht) (V:=CN) rfl hM.fresh,rfl,hM,by
   have:AI []=[]:=List.length_eq_zero_iff.1 (EH [])
   rw[this];exact .none⟩
 |own hc hz hb'=>
  rename_i c m;subst hg
  by_cases hl:l=[]
  ·subst hl;have:AI []=[]:=List.length_eq_zero_iff.1 (EH []);exact⟨_,st,_,Oi (V0:=fun _=>.tup []) (F:=Ht) (V:=CN) rfl hM.fresh c m,rfl,hM,by rw[this];exact .own hc hz hb'⟩
  ·have hrow:=hM.xg (c:=c) (m:=m) (l:=(Xq l).flatten) Q3
   have hs:E0 (Xq l).flatten=some (l.map OH):=by rw[Fe];exact HG l
   obtain⟨v,st',h1,h2,h3,h4⟩:=Be (F:=Ht) (V:=CN) (V0:=fun _=>.tup []) (G:=QR) (P:=Tryz.prog) (f:=119) rfl hM.fresh hrow hs (by simpa using hl) (by simpa using hb) (Gz _);have h5:(Ht (l.map OH)).map Pp=(Xq (AI l)).flatten:=zQ _;rw[h5]at h3;refine⟨v,st',[(c,m,(Xq (AI l)).flatten)],?_,h2,Mem.uX (L:=L) (B:=B) hM h4 h3,?_⟩
   ·rw[J5];rw[List.length_map]at h1;exact h1
   ·have:=Acc.own (m:=m) (ls:=Xq (AI l)) hc (Wi _) (by rw[J5,EH];exact hb);rw[J5,EH]at this;rw[J5];exact this
theorem xJ{h:Hp}{l:List (List Nat)}{rest:List AV}(r:Jj h c m (l.map AV.str++rest))(hb:l.length≤1000000):QS h [] 1 (Xq l) (.sl c m 0 l.length 1):=by
 refine⟨by rw[J5];rfl,by rw[J5];omega,rfl,fun i cs hi=>?_,fun c' m' off n z' e=>?_⟩
 ·have hlt:i<l.length:=by
   have:=(List.getElem?_eq_some_iff.1 hi).1;rw[J5]at this;exact this
  rw[B6 (List.getElem?_eq_getElem hlt)]at hi
  injection hi with hi
  subst hi;refine⟨c,m,0,_,by rw[J5],by simp,r.YQ,rfl,?_⟩;rw[Nat.zero_add,Nat.mul_one,List.drop_append_of_le_length (by rw[List.length_map];omega),List.drop_eq_getElem_cons (by rw[List.length_map];exact hlt)];simp
 ·injection e with e1 e2 e3 e4 e5
  subst e1 e2 e3 e4 e5;exact⟨by simp,_,r.YQ,by simp⟩
theorem La(l:List (List Nat)):(AM l).length≤l.length:=by
 have:=A6 (l.map OH)
 simpa [AM]using this
end
section

theorem Gu{α:Type}{l:List α}{i:Nat}{y:α}(h:l[i]? =some y):l.take (i+1)=l.take i++[y]:=by
 rw[List.take_add_one,h];rfl

end
section

def Ud(x:Nd):List (List Nat):=AM (AI (QE x []))
end
section

theorem Lv{α:Type} [Inhabited α] [DecidableEq α]{zs:List α}{x:α}:x∈Lib.compact zs↔x∈zs:=by
 unfold Lib.compact Lib.compactUpTo;constructor
 ·intro h;obtain⟨i,hi,rfl⟩:=List.mem_map.1 h;have hi':i<zs.length:=List.mem_range.1 (List.mem_filter.1 hi).1;simp[getElem!_pos,hi']
 ·intro h;obtain⟨i,hi,rfl⟩:=List.getElem_of_mem h;rw[List.mem_map]

  have: ∀j (hj:j<zs.length),zs[j]=zs[i]→ ∃a,a∈(List.range zs.length).filter (Lib.keeps zs.toArray)∧(zs.toArray)[a]! =zs[i]:=by
   intro j
   induction j with
   |zero=>intro hj e;exact⟨0,List.mem_filter.2 ⟨List.mem_range.2 hj,by simp[Lib.keeps]⟩,by simp[getElem!_pos,hj,e]⟩
   |succ j ih=>
    intro hj e
    by_cases h2:zs[j]=zs[j+1]
    ·exact ih Qh (h2.trans e)
    ·refine⟨j+1,List.mem_filter.2 ⟨List.mem_range.2 hj,?_⟩,by simp[getElem!_pos,hj,e]⟩;apply Lib.keeps_pos
     have:j<zs.length:=by omega
     simp[getElem!_pos,hj,this];exact fun e=>h2 e.symm
  exact this i hi rfl
theorem Sr{s:List Nat}(h:Bytes s):xk (OH s)=s:=by
 unfold xk OH;rw[List.map_map]
 conv=>rhs;rw[←List.map_id s]
 refine List.map_congr_left fun x hx=>?_;have:=h x hx;show(UInt8.ofNat x).toNat=x;simp[UInt8.toNat_ofNat'];omega
theorem yE(s:List UInt8):OH (xk s)=s:=by
 unfold xk OH;rw[List.map_map]
 conv=>rhs;rw[←List.map_id s]
 exact List.map_congr_left fun x hx=>by simp
theorem xH{l:List (List Nat)}(h: ∀s∈l,Bytes s)(x:List Nat):x∈AM (AI l)↔x∈l:=by
 unfold AM AI;rw[List.map_map,show(OH∘xk)=id from funext yE,List.map_id,List.mem_map];constructor
 ·rintro⟨y,hy,rfl⟩
  rw[Lv,Ht,List.mem_mergeSort]at hy;obtain⟨z,hz,rfl⟩:=List.mem_map.1 hy;rw[Sr (h z hz)];exact hz
 ·intro hx;refine⟨OH x,?_,Sr (h x hx)⟩;rw[Lv,Ht,List.mem_mergeSort];exact List.mem_map_of_mem hx

def Y4(x:Nd):Bool:=match x with
 |.mk op _ _ _ kids=>(!(decide (op=[118,97,114])||decide (op=[105,115]))||kids.isEmpty)&&kids.attach.all fun k=>Y4 k.1
termination_by Uj x
decreasing_by
 all_goals
  simp_wf
  have:=Z4 k.2;rw[Uj];omega
theorem FG(op name:List Nat)(n at_:Int)(kids:List Nd):Y4 (.mk op name n at_ kids)=((!(decide (op=[118,97,114])||decide (op=[105,115]))||kids.isEmpty)&&kids.all Y4):=by
 rw[Y4,Vv kids Y4]
theorem Md{l:List Nd}(h:((l.length:Nat):Int)=0):l=[]:=List.length_eq_zero_iff.1 Qh
theorem HA(x:Nd):QO x=true→Y4 x=true:=by
 refine Uz (M:=fun x=>QO x=true→Y4 x=true) (fun op name n a kids ih h=>?_) x;rw[FG];rw[J6]at h;have hall:(∀k∈kids,QO k=true)→kids.all Y4=true:=fun h=>List.all_eq_true.2 fun k hk=>ih k hk (h k hk)
 split at h
 ·simp only[Bool.and_eq_true,decide_eq_true_eq]at h;rw[Md h.2.2];simp
 ·rename_i hv;have e1:decide (op=[118,97,114])=false:=decide_eq_false hv
  split at h
  ·simp only[Bool.and_eq_true,decide_eq_true_eq]at h;rw[Md h.2.2.2];simp
  ·split at h
   ·rename_i hp;subst hp;simp only[Bool.and_eq_true,decide_eq_true_eq,List.all_eq_true]at h;rw[hall fun k hk=>(h.2.2.2.2 k hk).2];rfl
   ·split at h
    ·rename_i hp;subst hp;simp only[Bool.and_eq_true,decide_eq_true_eq,List.all_eq_true,Y3]at h;rw[hall fun k hk=>(h.2.2.2 k hk).1];rfl
    ·split at h
     ·rename_i hp;simp only[Bool.and_eq_true,List.all_eq_true]at h;rw[hall h.2.1,e1]
      have:decide (op=[105,115])=false:=decide_eq_false fun e=>by subst e;exact absurd hp QT
      rw[this];rfl
     ·cases h
theorem xp{nm:List Nat}{n m:Int}{kids:List Nd}(h:J4 nm n kids m=true):((kids.length:Nat):Int)=m:=by
 simp only[J4,Bool.and_eq_true,decide_eq_true_eq]at h;exact h.2.2
theorem NV(x:Nd):Jw x=true→Y4 x=true:=by
 refine Uz (M:=fun x=>Jw x=true→Y4 x=true) (fun op name n a kids ih h=>?_) x;rw[FG];rw[J7]at h;have hall:(∀k∈kids,Jw k=true)→kids.all Y4=true:=fun h=>List.all_eq_true.2 fun k hk=>ih k hk (h k hk);have hallT:(∀k∈kids,QO k=true)→kids.all Y4=true:=fun h=>List.all_eq_true.2 fun k hk=>HA k (h k hk)
 have no: ∀ls:List (List Nat),oneOf op ls=true→ls.contains [118,97,114]=false→ls.contains [105,115]=false→(decide (op=[118,97,114])||decide (op=[105,115]))=false:=by
  intro ls h h1 h2;rw[oneOf,List.any_eq_true]at h;obtain⟨y,hy,e⟩:=h;have e:=of_decide_eq_true e;subst e;rw[Bool.or_eq_false_iff];refine⟨decide_eq_false fun e=>?_,decide_eq_false fun e=>?_⟩
  ·subst e;rw[List.contains_eq_mem,decide_eq_false_iff_not]at h1;exact h1 hy
  ·subst e;rw[List.contains_eq_mem,decide_eq_false_iff_not]at h2;exact h2 hy
 split at h
 ·rw[Md (xp h)];simp
 ·split at h
  ·rename_i hp;subst hp;simp only[Bool.and_eq_true,List.all_eq_true]at h;rw[hall h.2];rfl
  ·split at h
   ·rename_i hp;simp only[Bool.and_eq_true,List.all_eq_true]at h;rw[hall h.2,no _ hp rfl rfl];rfl
   ·split at h
    ·rename_i hp;simp only[Bool.and_eq_true,List.all_eq_true]at h;rw[hall h.2.2.2.2,no _ hp rfl rfl];rfl
    ·split at h
     ·simp only[Bool.and_eq_true,decide_eq_true_eq]at h;rw[Md h.2.2];simp
     ·split at h
      ·rename_i hp;simp only[Bool.and_eq_true,List.all_eq_true]at h;rw[hallT h.2,no _ hp rfl rfl];rfl
      ·split at h
       ·rename_i hp;subst hp;simp only[Bool.and_eq_true,List.all_eq_true]at h;rw[hallT h.2.2.2];rfl
       ·cases h
theorem Ka{s:List Nat}{l:List (List Nat)}:F4 s l=true↔s∈l:=by
 rw[F4,List.any_eq_true];constructor
 ·rintro⟨x,hx,e⟩
  have e:=of_decide_eq_true e;subst e;exact hx
 ·exact fun h=>⟨s,h,decide_eq_true rfl⟩
theorem JV{z:List Nat}{b:List (List Nat)}: ∀{l:List Nd},z∈Yq l b↔ ∃k∈l,z∈QE k b:=by
 intro l
 induction l with
 |nil=>simp[Yq]
 |cons k l ih=>
  rw[Yq,List.mem_append,ih];simp
theorem Vr(x:Nd): ∀(b:List (List Nat)) (z:List Nat),z∈QE x b↔z∈QE x []∧ ¬z∈b:=by
 refine Uz (M:=fun x=> ∀(b:List (List Nat)) (z:List Nat),z∈QE x b↔z∈QE x []∧ ¬z∈b) (fun op name n a kids ih b z=>?_) x
 have hkids: ∀c z,z∈Yq kids c↔z∈Yq kids []∧ ¬z∈c:=fun c z=>by
  rw[JV,JV];constructor
  ·rintro⟨k,hk,h⟩
   have:=(ih k hk c z).1 h;exact⟨⟨k,hk,this.1⟩,this.2⟩
  ·rintro⟨⟨k,hk,h⟩,h2⟩
   exact⟨k,hk,(ih k hk c z).2 ⟨h,h2⟩⟩
 rw[QE,QE]
 split
 ·by_cases hb:F4 name b=true
  ·rw[if_pos hb,if_neg (by simp[F4])];rw[Ka]at hb;constructor
   ·intro h;cases h
   ·rintro⟨h1,h2⟩
    rw[List.mem_singleton]at h1;subst h1;exact absurd hb h2
  ·rw[if_neg hb,if_neg (by simp[F4])];rw[Ka]at hb;constructor
   ·intro h;refine⟨h,?_⟩;rw[List.mem_singleton]at h;subst h;exact hb
   ·exact fun h=>h.1
 ·split
  ·rw[hkids (b++[name]),hkids ([]++[name])];simp only[List.mem_append,List.nil_append];constructor
   ·rintro⟨h1,h2⟩;exact⟨⟨h1,fun h=>h2 (.inr h)⟩,fun h=>h2 (.inl h)⟩
   ·rintro⟨⟨h1,h2⟩,h3⟩;exact⟨h1,fun h=>h.elim h3 h2⟩
  ·exact hkids b z
end
section
variable {a n:Int} {kids:List Nd} {op:List Nat}

def Jt:List (List Nat)→List Nd→List Nat→Option Nd
 |n::ns,t::ts,s=>if n=s then some t else Jt ns ts s
 |_,_,_=>none
def Nd.name:Nd→List Nat
 |.mk _ name _ _ _=>name
def Nd.setAt(a:Int):Nd→Nd
 |.mk op name n _ kids=>.mk op name n a kids
def Nd.Wn:Nd→Int
 |.mk _ _ n _ _=>n
def Nd.wE:Nd→List Nd
 |.mk _ _ _ _ l=>l
def Xx(op name:List Nat)(n a:Int)(kids:List Nd):Nd:=
 if op=[112,108,117,115]then match kids with
  |[k]=>if k.op=[110,117,109]then .mk [110,117,109] [] (n+k.Wn) a []else if k.op=[112,108,117,115]then .mk op name (n+k.Wn) a k.wE else .mk op name n a kids
  |_=>.mk op name n a kids
 else .mk op name n a kids
def Yz(used:List (List Nat)):Nat→List Nat→List Nat
 |0,s=>s
 |f+1,s=>if F4 s used then Yz used f (s++[39])else s
def ZP(cnt:List Nat→Int)(s:List Nat)(used:List (List Nat)):List Nat:=
 if cnt (Yz used (used.length+1) s)>12 then Yz used (used.length+1) [118]else Yz used (used.length+1) s
def Xw(ns:List (List Nat))(ts:List Nd)(but:List Nat)(l:List (List Nat)):List (List Nat×Nd):=
 l.filterMap fun s=>if s=but then none else(Jt ns ts s).map fun t=>(s,t)
def AK:List Nd→List (List Nat)
 |k::_=>Ud k
 |[]=>[]
structure eQ where
 name:List Nat
 ns:List (List Nat)
 ts:List Nd
def AF(cnt:List Nat→Int)(name:List Nat)(kids:List Nd)(ns:List (List Nat))(ts:List Nd):eQ:=
 let x:=Xw ns ts name (AK kids)
 let used:=AK kids++(x.map fun p=>Ud p.2).flatten
 if x.any (fun p=>F4 name (Ud p.2))then
  let name':=ZP cnt name used
  ⟨name',x.map Prod.fst++[name],x.map Prod.snd++[.mk [118,97,114] name' 0 0 []]⟩
 else⟨name,x.map Prod.fst,x.map Prod.snd⟩
mutual
def Yo(cnt:List Nat→Int):Nd→List (List Nat)→List Nd→Nd
 |.mk op name n a kids,ns,ts=>
  if op=[118,97,114]∧(Jt ns ts name).isSome then match Jt ns ts name with
   |some t=>t.setAt a
   |none=>.mk op name n a kids
  else if op=[105,115]∧(Jt ns ts name).any (fun t=>decide (t.op=[118,97,114]))then match Jt ns ts name with
   |some t=>.mk op t.name n a kids
   |none=>.mk op name n a kids
  else if op=[101,120]∨op=[97,108,108]then
   .mk op (AF cnt name kids ns ts).name n a (OI cnt kids (AF cnt name kids ns ts).ns (AF cnt name kids ns ts).ts)
  else Xx op name n a (OI cnt kids ns ts)
def OI(cnt:List Nat→Int):List Nd→List (List Nat)→List Nd→List Nd
 |[],_,_=>[]
 |k::l,ns,ts=>Yo cnt k ns ts::OI cnt l ns ts
end
theorem YR(cnt:List Nat→Int)(ns:List (List Nat))(ts:List Nd): ∀l:List Nd,OI cnt l ns ts=l.map fun k=>Yo cnt k ns ts
 |[]=>by simp[OI]
 |k::l=>by rw[OI,YR cnt ns ts l];rfl

theorem NO(ts:List Nd)(s:List Nat):Jt [] ts s=none:=by cases ts<;>rfl
theorem PG{name:List Nat}(h:QO (.mk op name n a kids)=true)(hp:op=[112,108,117,115]): ∃k,kids=[k]∧k.op=[118,97,114]∧QO k=true:=by
 subst hp;rw[J6]at h;rw[if_neg QT,if_neg QT,if_pos QT]at h;simp only[Bool.and_eq_true,decide_eq_true_eq,List.all_eq_true]at h
 match kids,h with
 |[k],h=>exact⟨k,rfl,(h.2.2.2.2 k (List.mem_cons_self ..)).1,(h.2.2.2.2 k (List.mem_cons_self ..)).2⟩
 |[],h=>simp at h
 |_::_::l,h=>exfalso;have:=h.2.2.2.1;simp at this;omega
theorem NU{name:List Nat}(h:Jw (.mk [112,108,117,115] name n a kids)=true):False:=by
 rw[J7]at h;rw[if_neg QT,if_neg QT,if_neg QT,if_neg QT,if_neg QT,if_neg QT,if_neg QT]at h;cases h
def xj(x:Nd):Prop:=Jw x=true∨QO x=true
theorem KA{p:Nd→Bool}{l:List Nd}(h:l.all p=true){k:Nd}(hk:k∈l):p k=true:=List.all_eq_true.1 h k hk
theorem Sx{l:List Nd}{k:Nd}(h:((l.length:Nat):Int)=0)(hk:k∈l):False:=by rw[Md h]at hk;cases hk
theorem W4{name:List Nat}(h:QO (.mk op name n a kids)=true): ∀k∈kids,QO k=true:=by
 intro k hk;rw[J6]at h
 split at h
 ·simp only[Bool.and_eq_true,decide_eq_true_eq]at h;exact(Sx h.2.2 hk).elim
 ·split at h
  ·simp only[Bool.and_eq_true,decide_eq_true_eq]at h;exact(Sx h.2.2.2 hk).elim
  ·split at h
   ·simp only[Bool.and_eq_true,decide_eq_true_eq,List.all_eq_true]at h;exact(h.2.2.2.2 k hk).2
   ·split at h
    ·simp only[Bool.and_eq_true,decide_eq_true_eq,List.all_eq_true,Y3]at h;exact(h.2.2.2 k hk).1
    ·split at h
     ·simp only[Bool.and_eq_true,List.all_eq_true]at h;exact h.2.1 k hk
     ·cases h
theorem ju{name:List Nat}(h:xj (.mk op name n a kids)): ∀k∈kids,xj k:=by
 intro k hk;rcases h with h|h
 ·rw[J7]at h
  split at h
  ·exact(Sx (xp h) hk).elim
  ·split at h
   ·simp only[Bool.and_eq_true]at h;exact .inl (KA h.2 hk)
   ·split at h
    ·simp only[Bool.and_eq_true]at h;exact .inl (KA h.2 hk)
    ·split at h
     ·simp only[Bool.and_eq_true]at h;exact .inl (KA h.2.2.2.2 hk)
     ·split at h
      ·simp only[Bool.and_eq_true,decide_eq_true_eq]at h;exact(Sx h.2.2 hk).elim
      ·split at h
       ·simp only[Bool.and_eq_true]at h;exact .inr (KA h.2 hk)
       ·split at h
        ·simp only[Bool.and_eq_true]at h;exact .inr (KA h.2.2.2 hk)
        ·cases h
 ·exact .inr (W4 h k hk)
theorem jw{x:Nd}(h:xj x):Y4 x=true:=h.elim (NV x) (HA x)
theorem Dp{name:List Nat}(h:xj (.mk op name n a kids))(hv:op=[118,97,114]∨op=[105,115]):kids=[]:=by
 have:=jw h;rw[FG,Bool.and_eq_true]at this
 have h1:(decide (op=[118,97,114])||decide (op=[105,115]))=true:=by simpa using hv
 have h2:=this.1;rw[h1]at h2
 simpa using h2
theorem jv{name:List Nat}(h:xj (.mk op name n a kids))(hv:op=[101,120]∨op=[97,108,108]): ∃k,kids=[k]:=by
 have hl:((kids.length:Nat):Int)=1:=by
  rcases h with h|h
  ·rw[J7]at h
   rw[if_neg (by rcases hv with rfl|rfl<;>decide),if_neg (by rcases hv with rfl|rfl<;>decide),if_neg (by rcases hv with rfl|rfl<;>decide),if_pos (by rcases hv with rfl|rfl<;>decide)]at h
   simp only[Bool.and_eq_true,decide_eq_true_eq]at h;exact h.2.2.2.1
  ·exfalso
   rw[J6]at h
   rw[if_neg (by rcases hv with rfl|rfl<;>decide),if_neg (by rcases hv with rfl|rfl<;>decide),if_neg (by rcases hv with rfl|rfl<;>decide),if_neg (by rcases hv with rfl|rfl<;>decide),if_neg (by rcases hv with rfl|rfl<;>decide)]at h
   cases h
 match kids,hl with
 |[k],_=>exact⟨k,rfl⟩
 |[],h=>simp at h
 |_::_::l,h=>exfalso;simp at h;omega
end
end Go.Proofs.YtaomhhkflohhgaaGreatDoor
