/-
  The names that are free: the program's answer is the reference's.
-/
import Derived.Test.YtadjjadimlkkgaaGreatDoorMnTrQ
set_option linter.unusedSimpArgs false
set_option linter.unusedVariables false
section
namespace Go.Proofs.YtadjjadimlkkgaaGreatDoor
open Go Go.RowKit

theorem TQ(x z:List Nat)(l:List (List Nat)):z∈Zc x l↔z=x∨z∈l:=by
 induction l with
 |nil=>simp[Zc]
 |cons y l ih=>
  rw[Zc]
  split
  ·rw[List.mem_cons,ih,List.mem_cons];constructor
   ·rintro(h|h|h)
    ·exact .inr (.inl h)
    ·exact .inl h
    ·exact .inr (.inr h)
   ·rintro(h|h|h)
    ·exact .inr (.inl h)
    ·exact .inl h
    ·exact .inr (.inr h)
  ·split
   ·rename_i h;subst h;simp
   ·simp
theorem Ih{α:Type} [Inhabited α] [DecidableEq α]{zs:List α}{x:α}:x∈Lib.compact zs↔x∈zs:=by
 unfold Lib.compact Lib.compactUpTo;constructor
 ·intro h;obtain⟨i,hi,rfl⟩:=List.mem_map.1 h;have hi':i<zs.length:=List.mem_range.1 (List.mem_filter.1 hi).1;simp[getElem!_pos,hi']
 ·intro h;obtain⟨i,hi,rfl⟩:=List.getElem_of_mem h;rw[List.mem_map]

  have: ∀j (hj:j<zs.length),zs[j]=zs[i]→ ∃a,a∈(List.range zs.length).filter (Lib.keeps zs.toArray)∧(zs.toArray)[a]! =zs[i]:=by
   intro j
   induction j with
   |zero=>intro hj e;exact⟨0,List.mem_filter.2 ⟨List.mem_range.2 hj,by simp[Lib.keeps]⟩,by simp[getElem!_pos,hj,e]⟩
   |succ j ih=>
    intro hj e
    by_cases h2:zs[j]=zs[j+1]
    ·exact ih (by omega) (h2.trans e)
    ·refine⟨j+1,List.mem_filter.2 ⟨List.mem_range.2 hj,?_⟩,by simp[getElem!_pos,hj,e]⟩;apply Lib.keeps_pos
     have:j<zs.length:=by omega
     simp[getElem!_pos,hj,this];exact fun e=>h2 e.symm
  exact this i hi rfl
theorem DP{s:List Nat}(h:Bytes s):uz (Lt s)=s:=by
 unfold uz Lt;rw[List.map_map]
 conv=>rhs;rw[←List.map_id s]
 refine List.map_congr_left fun x hx=>?_;have:=h x hx;show(UInt8.ofNat x).toNat=x;simp[UInt8.toNat_ofNat'];omega
theorem qO(s:List UInt8):Lt (uz s)=s:=by
 unfold uz Lt;rw[List.map_map]
 conv=>rhs;rw[←List.map_id s]
 exact List.map_congr_left fun x hx=>by simp
theorem yw{l:List (List Nat)}(h: ∀s∈l,Bytes s)(x:List Nat):x∈Eb (WZ l)↔x∈l:=by
 unfold Eb WZ;rw[List.map_map,show(Lt∘uz)=id from funext qO,List.map_id,List.mem_map];constructor
 ·rintro⟨y,hy,rfl⟩
  rw[Ih,Ar,List.mem_mergeSort]at hy;obtain⟨z,hz,rfl⟩:=List.mem_map.1 hy;rw[DP (h z hz)];exact hz
 ·intro hx;refine⟨Lt x,?_,DP (h x hx)⟩;rw[Ih,Ar,List.mem_mergeSort];exact List.mem_map_of_mem hx

def Um(x:Nd):Bool:=match x with
 |.mk op _ _ _ kids=>(!(decide (op=[118,97,114])||decide (op=[105,115]))||kids.isEmpty)&&kids.attach.all fun k=>Um k.1
termination_by Jz x
decreasing_by
 all_goals
  simp_wf
  have:=Yb k.2;rw[Jz];omega
theorem Wt(op name:List Nat)(n at_:Int)(kids:List Nd):Um (.mk op name n at_ kids)=((!(decide (op=[118,97,114])||decide (op=[105,115]))||kids.isEmpty)&&kids.all Um):=by
 rw[Um,Xn kids Um]
theorem Rn{l:List Nd}(h:((l.length:Nat):Int)=0):l=[]:=List.length_eq_zero_iff.1 (by omega)
theorem AE(x:Nd):Q9 x=true→Um x=true:=by
 refine J2 (M:=fun x=>Q9 x=true→Um x=true) (fun op name n a kids ih h=>?_) x;rw[Wt];rw[Jc]at h;have hall:(∀k∈kids,Q9 k=true)→kids.all Um=true:=fun h=>List.all_eq_true.2 fun k hk=>ih k hk (h k hk)
 split at h
 ·simp only[Bool.and_eq_true,decide_eq_true_eq]at h;rw[Rn h.2.2];simp
 ·rename_i hv;have e1:decide (op=[118,97,114])=false:=decide_eq_false hv
  split at h
  ·simp only[Bool.and_eq_true,decide_eq_true_eq]at h;rw[Rn h.2.2.2];simp
  ·split at h
   ·rename_i hp;subst hp;simp only[Bool.and_eq_true,decide_eq_true_eq,List.all_eq_true]at h;rw[hall fun k hk=>(h.2.2.2.2 k hk).2];rfl
   ·split at h
    ·rename_i hp;subst hp;simp only[Bool.and_eq_true,decide_eq_true_eq,List.all_eq_true,UB]at h;rw[hall fun k hk=>(h.2.2.2 k hk).1];rfl
    ·split at h
     ·rename_i hp;simp only[Bool.and_eq_true,List.all_eq_true]at h;rw[hall h.2.1,e1]
      have:decide (op=[105,115])=false:=decide_eq_false fun e=>by subst e;exact absurd hp (by decide)
      rw[this];rfl
     ·cases h
theorem uZ{nm:List Nat}{n m:Int}{kids:List Nd}(h:QZ nm n kids m=true):((kids.length:Nat):Int)=m:=by
 simp only[QZ,Bool.and_eq_true,decide_eq_true_eq]at h;exact h.2.2
theorem AW(x:Nd):QW x=true→Um x=true:=by
 refine J2 (M:=fun x=>QW x=true→Um x=true) (fun op name n a kids ih h=>?_) x;rw[Wt];rw[Jd]at h;have hall:(∀k∈kids,QW k=true)→kids.all Um=true:=fun h=>List.all_eq_true.2 fun k hk=>ih k hk (h k hk);have hallT:(∀k∈kids,Q9 k=true)→kids.all Um=true:=fun h=>List.all_eq_true.2 fun k hk=>AE k (h k hk)
 have no: ∀ls:List (List Nat),oneOf op ls=true→ls.contains [118,97,114]=false→ls.contains [105,115]=false→(decide (op=[118,97,114])||decide (op=[105,115]))=false:=by
  intro ls h h1 h2;rw[oneOf,List.any_eq_true]at h;obtain⟨y,hy,e⟩:=h;have e:=of_decide_eq_true e;subst e;rw[Bool.or_eq_false_iff];refine⟨decide_eq_false fun e=>?_,decide_eq_false fun e=>?_⟩
  ·subst e;rw[List.contains_eq_mem,decide_eq_false_iff_not]at h1;exact h1 hy
  ·subst e;rw[List.contains_eq_mem,decide_eq_false_iff_not]at h2;exact h2 hy
 split at h
 ·rw[Rn (uZ h)];simp
 ·split at h
  ·rename_i hp;subst hp;simp only[Bool.and_eq_true,List.all_eq_true]at h;rw[hall h.2];rfl
  ·split at h
   ·rename_i hp;simp only[Bool.and_eq_true,List.all_eq_true]at h;rw[hall h.2,no _ hp rfl rfl];rfl
   ·split at h
    ·rename_i hp;simp only[Bool.and_eq_true,List.all_eq_true]at h;rw[hall h.2.2.2.2,no _ hp rfl rfl];rfl
    ·split at h
     ·simp only[Bool.and_eq_true,decide_eq_true_eq]at h;rw[Rn h.2.2];simp
     ·split at h
      ·rename_i hp;simp only[Bool.and_eq_true,List.all_eq_true]at h;rw[hallT h.2,no _ hp rfl rfl];rfl
      ·split at h
       ·rename_i hp;subst hp;simp only[Bool.and_eq_true,List.all_eq_true]at h;rw[hallT h.2.2.2];rfl
       ·cases h
theorem Ad{s:List Nat}{l:List (List Nat)}:V1 s l=true↔s∈l:=by
 rw[V1,List.any_eq_true];constructor
 ·rintro⟨x,hx,e⟩
  have e:=of_decide_eq_true e;subst e;exact hx
 ·exact fun h=>⟨s,h,decide_eq_true rfl⟩
theorem Jh{z:List Nat}{b:List (List Nat)}: ∀{l:List Nd},z∈Uu l b↔ ∃k∈l,z∈Qx k b:=by
 intro l
 induction l with
 |nil=>simp[Uu]
 |cons k l ih=>
  rw[Uu,List.mem_append,ih];simp
theorem YB(x:Nd): ∀(b:List (List Nat)) (z:List Nat),z∈Qx x b↔z∈Qx x []∧ ¬z∈b:=by
 refine J2 (M:=fun x=> ∀(b:List (List Nat)) (z:List Nat),z∈Qx x b↔z∈Qx x []∧ ¬z∈b) (fun op name n a kids ih b z=>?_) x
 have hkids: ∀c z,z∈Uu kids c↔z∈Uu kids []∧ ¬z∈c:=fun c z=>by
  rw[Jh,Jh];constructor
  ·rintro⟨k,hk,h⟩
   have:=(ih k hk c z).1 h;exact⟨⟨k,hk,this.1⟩,this.2⟩
  ·rintro⟨⟨k,hk,h⟩,h2⟩
   exact⟨k,hk,(ih k hk c z).2 ⟨h,h2⟩⟩
 rw[Qx,Qx]
 split
 ·by_cases hb:V1 name b=true
  ·rw[if_pos hb,if_neg (by simp[V1])];rw[Ad]at hb;constructor
   ·intro h;cases h
   ·rintro⟨h1,h2⟩
    rw[List.mem_singleton]at h1;subst h1;exact absurd hb h2
  ·rw[if_neg hb,if_neg (by simp[V1])];rw[Ad]at hb;constructor
   ·intro h;refine⟨h,?_⟩;rw[List.mem_singleton]at h;subst h;exact hb
   ·exact fun h=>h.1
 ·split
  ·rw[hkids (b++[name]),hkids ([]++[name])];simp only[List.mem_append,List.nil_append];constructor
   ·rintro⟨h1,h2⟩;exact⟨⟨h1,fun h=>h2 (.inr h)⟩,fun h=>h2 (.inl h)⟩
   ·rintro⟨⟨h1,h2⟩,h3⟩;exact⟨h1,fun h=>h.elim h3 h2⟩
  ·exact hkids b z
theorem CR{z:List Nat}: ∀{l acc:List (List Nat)},z∈Xk acc l↔z∈acc∨z∈l:=by
 intro l
 induction l with
 |nil=>intro acc;simp[Xk]
 |cons x l ih=>
  intro acc;show z∈Xk (Zc x acc) l↔_;rw[ih,TQ,List.mem_cons];constructor
  ·rintro((h|h)|h)
   ·exact .inr (.inl h)
   ·exact .inl h
   ·exact .inr (.inr h)
  ·rintro(h|h|h)
   ·exact .inl (.inr h)
   ·exact .inl (.inl h)
   ·exact .inr h
theorem TP{b:Option (List Nat)}{z:List Nat}: ∀{l:List Nd} {acc:List (List Nat)},z∈Am l b acc↔z∈acc∨ ∃k∈l,z∈YK k∧ ¬b=some z:=by
 intro l
 induction l with
 |nil=>intro acc;simp[Am]
 |cons k l ih=>
  intro acc;rw[Am,ih,CR];simp only[List.mem_filter,List.mem_cons,exists_eq_or_imp];constructor
  ·rintro((h|⟨h1,h2⟩)|h)
   ·exact .inl h
   ·exact .inr (.inl ⟨h1,by simpa using h2⟩)
   ·exact .inr (.inr h)
  ·rintro(h|⟨h1,h2⟩|h)
   ·exact .inl (.inl h)
   ·exact .inl (.inr ⟨h1,by simpa using h2⟩)
   ·exact .inr h
theorem GX(x:Nd):Um x=true→ ∀z,z∈YK x↔z∈Qx x []:=by
 refine J2 (M:=fun x=>Um x=true→ ∀z,z∈YK x↔z∈Qx x []) (fun op name n a kids ih hb z=>?_) x;rw[Wt,Bool.and_eq_true]at hb;obtain⟨hb1,hb2⟩:=hb;have ih: ∀k∈kids,∀z,z∈YK k↔z∈Qx k []:=fun k hk=>ih k hk (List.all_eq_true.1 hb2 k hk);rw[YK,TP,Qx]
 by_cases hv:op=[118,97,114]∨op=[105,115]
 ·have hk:kids=[]:=by
   have:(decide (op=[118,97,114])||decide (op=[105,115]))=true:=by simpa using hv
   rw[this]at hb1
   simpa using hb1
  subst hk;rw[if_pos hv,if_pos hv];simp[V1]
 ·rw[if_neg hv,if_neg hv]
  by_cases hq:op=[101,120]∨op=[97,108,108]
  ·rw[if_pos hq,if_pos hq,Jh];constructor
   ·rintro(h|⟨k,hk,h1,h2⟩)
    ·cases h
    ·exact⟨k,hk,(YB k _ z).2 ⟨(ih k hk z).1 h1,fun h=>h2 (by simp at h;rw[h])⟩⟩
   ·rintro⟨k,hk,h⟩
    obtain⟨h1,h2⟩:=(YB k _ z).1 h;exact .inr ⟨k,hk,(ih k hk z).2 h1,fun e=>h2 (by injection e with e;simp[e])⟩
  ·rw[if_neg hq,if_neg hq,Jh];constructor
   ·rintro(h|⟨k,hk,h1,h2⟩)
    ·cases h
    ·exact⟨k,hk,(ih k hk z).1 h1⟩
   ·rintro⟨k,hk,h⟩
    exact .inr ⟨k,hk,(ih k hk z).2 h,fun e=>nomatch e⟩
end Go.Proofs.YtadjjadimlkkgaaGreatDoor
end
section
namespace Go.Proofs.YtadjjadimlkkgaaGreatDoor
open Go Go.RowKit

def QS:List (List Nat)→List Nd→List Nat→Option Nd
 |n::ns,t::ts,s=>if n=s then some t else QS ns ts s
 |_,_,_=>none
def Nd.name:Nd→List Nat
 |.mk _ name _ _ _=>name
def Nd.setAt(a:Int):Nd→Nd
 |.mk op name n _ kids=>.mk op name n a kids
def Nd.VP:Nd→Int
 |.mk _ _ n _ _=>n
def Nd.zO:Nd→List Nd
 |.mk _ _ _ _ l=>l
def Zb(op name:List Nat)(n a:Int)(kids:List Nd):Nd:=
 if op=[112,108,117,115]then match kids with
  |[k]=>if k.op=[110,117,109]then .mk [110,117,109] [] (n+k.VP) a []else if k.op=[112,108,117,115]then .mk op name (n+k.VP) a k.zO else .mk op name n a kids
  |_=>.mk op name n a kids
 else .mk op name n a kids
def U6(used:List (List Nat)):Nat→List Nat→List Nat
 |0,s=>s
 |f+1,s=>if V1 s used then U6 used f (s++[39])else s
def UX(cnt:List Nat→Int)(s:List Nat)(used:List (List Nat)):List Nat:=
 if cnt (U6 used (used.length+1) s)>12 then U6 used (used.length+1) [118]else U6 used (used.length+1) s
def YZ(ns:List (List Nat))(ts:List Nd)(but:List Nat)(l:List (List Nat)):List (List Nat×Nd):=
 l.filterMap fun s=>if s=but then none else(QS ns ts s).map fun t=>(s,t)
def Ea:List Nd→List (List Nat)
 |k::_=>Jk k
 |[]=>[]
structure xY where
 name:List Nat
 ns:List (List Nat)
 ts:List Nd
def WX(cnt:List Nat→Int)(name:List Nat)(kids:List Nd)(ns:List (List Nat))(ts:List Nd):xY:=
 let x:=YZ ns ts name (Ea kids)
 let used:=Ea kids++(x.map fun p=>Jk p.2).flatten
 if x.any (fun p=>V1 name (Jk p.2))then
  let name':=UX cnt name used
  ⟨name',x.map Prod.fst++[name],x.map Prod.snd++[.mk [118,97,114] name' 0 0 []]⟩
 else⟨name,x.map Prod.fst,x.map Prod.snd⟩
mutual
def Ur(cnt:List Nat→Int):Nd→List (List Nat)→List Nd→Nd
 |.mk op name n a kids,ns,ts=>
  if op=[118,97,114]∧(QS ns ts name).isSome then match QS ns ts name with
   |some t=>t.setAt a
   |none=>.mk op name n a kids
  else if op=[105,115]∧(QS ns ts name).any (fun t=>decide (t.op=[118,97,114]))then match QS ns ts name with
   |some t=>.mk op t.name n a kids
   |none=>.mk op name n a kids
  else if op=[101,120]∨op=[97,108,108]then
   .mk op (WX cnt name kids ns ts).name n a (Lu cnt kids (WX cnt name kids ns ts).ns (WX cnt name kids ns ts).ts)
  else Zb op name n a (Lu cnt kids ns ts)
def Lu(cnt:List Nat→Int):List Nd→List (List Nat)→List Nd→List Nd
 |[],_,_=>[]
 |k::l,ns,ts=>Ur cnt k ns ts::Lu cnt l ns ts
end
theorem US(cnt:List Nat→Int)(ns:List (List Nat))(ts:List Nd): ∀l:List Nd,Lu cnt l ns ts=l.map fun k=>Ur cnt k ns ts
 |[]=>by simp[Lu]
 |k::l=>by rw[Lu,US cnt ns ts l];rfl

theorem Kz(ts:List Nd)(s:List Nat):QS [] ts s=none:=by cases ts<;>rfl
theorem Cy{op name:List Nat}{n a:Int}{kids:List Nd}(h:Q9 (.mk op name n a kids)=true)(hp:op=[112,108,117,115]): ∃k,kids=[k]∧k.op=[118,97,114]∧Q9 k=true:=by
 subst hp;rw[Jc]at h;rw[if_neg (by decide),if_neg (by decide),if_pos (by decide)]at h;simp only[Bool.and_eq_true,decide_eq_true_eq,List.all_eq_true]at h
 match kids,h with
 |[k],h=>exact⟨k,rfl,(h.2.2.2.2 k (List.mem_cons_self ..)).1,(h.2.2.2.2 k (List.mem_cons_self ..)).2⟩
 |[],h=>simp at h
 |_::_::l,h=>exfalso;have:=h.2.2.2.1;simp at this;omega
theorem KI{name:List Nat}{n a:Int}{kids:List Nd}(h:QW (.mk [112,108,117,115] name n a kids)=true):False:=by
 rw[Jd]at h;rw[if_neg (by decide),if_neg (by decide),if_neg (by decide),if_neg (by decide),if_neg (by decide),if_neg (by decide),if_neg (by decide)]at h;cases h
def uy(x:Nd):Prop:=QW x=true∨Q9 x=true
theorem FX{p:Nd→Bool}{l:List Nd}(h:l.all p=true){k:Nd}(hk:k∈l):p k=true:=List.all_eq_true.1 h k hk
theorem DU{l:List Nd}{k:Nd}(h:((l.length:Nat):Int)=0)(hk:k∈l):False:=by rw[Rn h]at hk;cases hk
theorem Vc{op name:List Nat}{n a:Int}{kids:List Nd}(h:Q9 (.mk op name n a kids)=true): ∀k∈kids,Q9 k=true:=by
 intro k hk;rw[Jc]at h
 split at h
 ·simp only[Bool.and_eq_true,decide_eq_true_eq]at h;exact(DU h.2.2 hk).elim
 ·split at h
  ·simp only[Bool.and_eq_true,decide_eq_true_eq]at h;exact(DU h.2.2.2 hk).elim
  ·split at h
   ·simp only[Bool.and_eq_true,decide_eq_true_eq,List.all_eq_true]at h;exact(h.2.2.2.2 k hk).2
   ·split at h
    ·simp only[Bool.and_eq_true,decide_eq_true_eq,List.all_eq_true,UB]at h;exact(h.2.2.2 k hk).1
    ·split at h
     ·simp only[Bool.and_eq_true,List.all_eq_true]at h;exact h.2.1 k hk
     ·cases h
theorem T6{op name:List Nat}{n a:Int}{kids:List Nd}(h:uy (.mk op name n a kids)): ∀k∈kids,uy k:=by
 intro k hk;rcases h with h|h
 ·rw[Jd]at h
  split at h
  ·exact(DU (uZ h) hk).elim
  ·split at h
   ·simp only[Bool.and_eq_true]at h;exact .inl (FX h.2 hk)
   ·split at h
    ·simp only[Bool.and_eq_true]at h;exact .inl (FX h.2 hk)
    ·split at h
     ·simp only[Bool.and_eq_true]at h;exact .inl (FX h.2.2.2.2 hk)
     ·split at h
      ·simp only[Bool.and_eq_true,decide_eq_true_eq]at h;exact(DU h.2.2 hk).elim
      ·split at h
       ·simp only[Bool.and_eq_true]at h;exact .inr (FX h.2 hk)
       ·split at h
        ·simp only[Bool.and_eq_true]at h;exact .inr (FX h.2.2.2 hk)
        ·cases h
 ·exact .inr (Vc h k hk)
theorem T8{x:Nd}(h:uy x):Um x=true:=h.elim (AW x) (AE x)
theorem GQ{op name:List Nat}{n a:Int}{kids:List Nd}(h:uy (.mk op name n a kids))(hv:op=[118,97,114]∨op=[105,115]):kids=[]:=by
 have:=T8 h;rw[Wt,Bool.and_eq_true]at this
 have h1:(decide (op=[118,97,114])||decide (op=[105,115]))=true:=by simpa using hv
 have h2:=this.1;rw[h1]at h2
 simpa using h2
theorem T7{op name:List Nat}{n a:Int}{kids:List Nd}(h:uy (.mk op name n a kids))(hv:op=[101,120]∨op=[97,108,108]): ∃k,kids=[k]:=by
 have hl:((kids.length:Nat):Int)=1:=by
  rcases h with h|h
  ·rw[Jd]at h
   rw[if_neg (by rcases hv with rfl|rfl<;>decide),if_neg (by rcases hv with rfl|rfl<;>decide),if_neg (by rcases hv with rfl|rfl<;>decide),if_pos (by rcases hv with rfl|rfl<;>decide)]at h
   simp only[Bool.and_eq_true,decide_eq_true_eq]at h;exact h.2.2.2.1
  ·exfalso
   rw[Jc]at h
   rw[if_neg (by rcases hv with rfl|rfl<;>decide),if_neg (by rcases hv with rfl|rfl<;>decide),if_neg (by rcases hv with rfl|rfl<;>decide),if_neg (by rcases hv with rfl|rfl<;>decide),if_neg (by rcases hv with rfl|rfl<;>decide)]at h
   cases h
 match kids,hl with
 |[k],_=>exact⟨k,rfl⟩
 |[],h=>simp at h
 |_::_::l,h=>exfalso;simp at h;omega
end Go.Proofs.YtadjjadimlkkgaaGreatDoor
end
