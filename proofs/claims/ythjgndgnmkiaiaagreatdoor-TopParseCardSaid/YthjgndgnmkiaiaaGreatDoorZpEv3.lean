/-
  Several texts in one: XEvN, XEvU.
-/
import Derived.Below
import Derived.Test.YthjgndgnmkiaiaaGreatDoorZpEv2
set_option linter.unusedSimpArgs false
set_option linter.unusedVariables false
namespace Go.Proofs.YthjgndgnmkiaiaaGreatDoor
open Go Go.RowKit
section
variable {h:Hp} {k:Nat} {v:AV}

abbrev GO:=List (Nat×Oper×Nat)
structure Io(P:Program)(G:Env)(call:Z7)(N:Nat)(ops:Array Oper)(ms:List Nat)(pl:GO)(Tf:Nat→Tr AV)(Sf:Nat→St)(Vf:Nat→AV):Prop where
 mo:Ow ops.toList ms=true
 tm:Cs ops.toList ms=true
 pa:Ln P ops.toList ms ops.toList.length 0 [] pl
 run: ∀(k:Nat) (q:Nat×Oper×Nat),pl[k]? =some q→YA P G call ops.toList q.2.1 (Tf k) (Sf k)=some (Vf k,Sf (k+1))∧ki N q.2.1.dst (Vf k) (Tf k) (Tf (k+1))∧
  (Yg ops.toList q.2.1 (Tf k)=true→again P G q.2.1 (Tf k) (Vf k) q.2.2 (Pe P [Sf 0] pl Sf k).tail=true)
structure an(G:Env)(pl:GO)(Tf:Nat→Tr AV)(Sf:Nat→St):Prop where
 fresh: ∀k,k≤pl.length→Q3 (Sf k)
 ab: ∀k,k<pl.length→Ab (Sf k) (Sf (k+1))
 wf: ∀k,k≤pl.length→ng (Sf k).h.get
 tw: ∀k,k≤pl.length→ ∀t,WF (Sf k).h.get (Zc (Tf k) t)
 go: ∀k,k≤pl.length→ ∀g,G.g g=true→ ∃C,(Sf k).h.get g=some C∧0<(exts C).length

section
variable {P:Program} {G:Env} {call:Z7} {N:Nat} {ops:Array Oper} {ms:List Nat} {pl:GO} {Tf:Nat→Tr AV} {Sf:Nat→St} {Vf:Nat→AV}

theorem Io.real(R:Io P G call N ops ms pl Tf Sf Vf)(hcall:Eg P G call)(hf:Q3 (Sf 0)){w0:World}{p:Jy}{w:World}{a:Act}{ds:List Deferred}(H:HR w0 p (Sf 0).h.get w)(hG:KF w0 p G)(hT:TR p (Sf 0).h.get (Tf 0) a N ds):
  ∀k,k≤pl.length→Ab (Sf 0) (Sf k)∧(∃p' w' a',Step w0 p w p' (Sf k).h.get w'∧TR p' (Sf k).h.get (Tf k) a' N ds)∧(∀k',k'<k→Ab (Sf k') (Sf (k'+1))):=by
 intro k
 induction k with
 |zero=>intro _;exact⟨Ab.refl _,⟨p,w,a,Step.refl H,hT⟩,fun k' hk=>by omega⟩
 |succ k ih=>
  intro hk;obtain⟨h1,⟨p1,w1,a1,h2,h3⟩,h4⟩:=ih Qk;have hq:pl[k]? =some pl[k]:=List.getElem?_eq_getElem Qk;obtain⟨r1,r2,_⟩:=R.run k _ hq;obtain⟨s1,⟨p2,w2,s2,s3⟩,_⟩:=DX hcall r1 (h1.fresh hf) h2.hr (hG.le h2.le) h3;have hT2:=h3.step h2.hr s2 s1.grow;refine⟨h1.trans s1,?_,fun k' hk'=>?_⟩
  ·rcases r2 with⟨hd,hTT⟩|⟨d,hd,hdN,hTT⟩
   ·exact⟨p2,w2,a1,h2.trans s2,by rw[hTT];exact hT2⟩
   ·exact⟨p2,w2,_,h2.trans s2,by rw[hTT];exact hT2.put s3 hdN⟩
  ·rcases Nat.lt_or_ge k' k with h|h
   ·exact h4 k' h
   ·have:k'=k:=by omega
    subst this;exact s1
theorem Io.oT(R:Io P G call N ops ms pl Tf Sf Vf)(hcall:Eg P G call)(hf:Q3 (Sf 0)){w0:World}{p:Jy}{w:World}{a:Act}{ds:List Deferred}(H:HR w0 p (Sf 0).h.get w)(hG:KF w0 p G)(hT:TR p (Sf 0).h.get (Tf 0) a N ds):an G pl Tf Sf:=by
 have hr:=R.real hcall hf H hG hT;refine⟨fun k hk=>(hr k hk).1.fresh hf,fun k hk=>(hr pl.length (Nat.le_refl _)).2.2 k hk,fun k hk=>?_,fun k hk t=>?_,fun k hk g hg=>?_⟩
 ·obtain⟨_,⟨p1,w1,a1,h2,h3⟩,_⟩:=hr k hk;exact h2.hr.wf
 ·obtain⟨_,⟨p1,w1,a1,h2,h3⟩,_⟩:=hr k hk;exact(h3.get t).2
 ·obtain⟨_,⟨p1,w1,a1,h2,h3⟩,_⟩:=hr k hk;obtain⟨e,he⟩:=(hG.le h2.le).1 g hg;exact h2.hr.dom g 0 _ he

theorem Io.pos(R:Io P G call N ops ms pl Tf Sf Vf){q:Nat×Oper×Nat}(hq:pl[k]? =some q):
  ops[q.1]? =some q.2.1∧(∀k' q',k'<k→pl[k']? =some q'→q'.1≠q.1)∧(∀x,Nat.testBit (Ik ms q.1) x=true→ ∃(k':Nat) (q':Nat×Oper×Nat),k'<k∧pl[k']? =some q'∧q'.1=x)∧
  (QH P q.2.1.op=3→ ∀k' q',k'<k→pl[k']? =some q'→Nat.testBit (Ik ms q.1) q'.1=true)∧(QH P q.2.1.op=1→q.2.2=Ff (Ik ms q.1) (Ef P [] pl k)):=by
 obtain⟨h1,_,h3,h4,h5,h6⟩:=zi pl 0 [] R.pa k q hq;refine⟨by rw[←Array.getElem?_toList];exact h1,h3,fun x hx=>?_,fun hk k' q' h h'=>h5 hk _ (.inr ⟨k',q',h,h',rfl⟩),h6⟩;rcases h4 x hx with h|h
 ·simp at h
 ·exact h
theorem Io.inj(R:Io P G call N ops ms pl Tf Sf Vf){k':Nat}{q q':Nat×Oper×Nat}(hq:pl[k]? =some q)(hq':pl[k']? =some q')(h:q.1=q'.1):k=k':=by
 rcases Nat.lt_trichotomy k k' with hlt|he|hlt
 ·exact absurd h ((R.pos hq').2.1 k q hlt hq)
 ·exact he
 ·exact absurd h.symm ((R.pos hq).2.1 k' q' hlt hq')
theorem Io.lV(R:Io P G call N ops ms pl Tf Sf Vf){k':Nat}{q q':Nat×Oper×Nat}(hq:pl[k]? =some q)(hq':pl[k']? =some q'){t:Nat}(h:q.2.1.dst=some t)(h':q'.2.1.dst=some t):k=k':=by
 by_cases he:q.1=q'.1
 ·exact R.inj hq hq' he
 ·have e1:ops.toList[q.1]? =some q.2.1:=by rw[Array.getElem?_toList];exact(R.pos hq).1
  have e2:ops.toList[q'.1]? =some q'.2.1:=by rw[Array.getElem?_toList];exact(R.pos hq').1
  exact absurd h' (Lr R.tm e1 e2 h he).1
theorem Io.aq(R:Io P G call N ops ms pl Tf Sf Vf): ∀k,k≤pl.length→ ∀t,((∀k' q',k'<k→pl[k']? =some q'→q'.2.1.dst≠some t)→Zc (Tf k) t=Zc (Tf 0) t)∧
  ∀k' q',k'<k→pl[k']? =some q'→q'.2.1.dst=some t→Zc (Tf k) t=Vf k':=by
 intro k
 induction k with
 |zero=>intro _ t;exact⟨fun _=>rfl,fun k' _ h=>by omega⟩
 |succ k ih=>
  intro hk t;obtain⟨i1,i2⟩:=ih Qk t;have hq:pl[k]? =some pl[k]:=List.getElem?_eq_getElem Qk;obtain⟨_,r2,_⟩:=R.run k _ hq;refine⟨fun h=>?_,fun k' q' hk' hq' hd=>?_⟩
  ·have:=i1 fun k' q' hk' hq'=>h k' q' Qk hq';rcases r2 with⟨_,hTT⟩|⟨d,hdd,_,hTT⟩
   ·rw[hTT];exact this
   ·rw[hTT,XH,if_neg]
    ·exact this
    ·rintro rfl
     exact h k _ (Nat.lt_succ_self k) hq hdd
  ·rcases Nat.lt_or_ge k' k with hlt|hge
   ·have:=i2 k' q' hlt hq' hd;rcases r2 with⟨_,hTT⟩|⟨d,hdd,_,hTT⟩
    ·rw[hTT];exact this
    ·rw[hTT,XH,if_neg]
     ·exact this
     ·rintro rfl
      have:=R.lV hq hq' hdd hd;omega
   ·have:k'=k:=by omega
    subst this;rw[hq]at hq'
    injection hq' with hq'
    rw[←hq']at hd;rcases r2 with⟨h0,_⟩|⟨d,hdd,_,hTT⟩
    ·rw[h0]at hd;cases hd
    ·rw[hdd]at hd
     injection hd with hd
     rw[hTT,XH,if_pos hd.symm]

theorem Io.idle(R:Io P G call N ops ms pl Tf Sf Vf){q:Nat×Oper×Nat}(hq:pl[k]? =some q)(hw:Yg ops.toList q.2.1 (Tf k)=false):Vf k=.tup []∧Sf (k+1)=Sf k:=by
 obtain⟨h,_⟩:=R.run k q hq;unfold YA at h;rw[hw,QL]at h
 injection h with h
 injection h with h1 h2
 exact⟨h1.symm,h2.symm⟩
theorem Io.op(R:Io P G call N ops ms pl Tf Sf Vf){q:Nat×Oper×Nat}(hq:pl[k]? =some q)(hw:Yg ops.toList q.2.1 (Tf k)=true):Td P (only q.2.1 (Ul G (Tf k))) call q.2.1 (Sf k)=some (Vf k,Sf (k+1)):=by
 obtain⟨h,_⟩:=R.run k q hq;unfold YA at h;rw[hw,QN]at h;rw[jy fun x hx=>wQ hx];exact h
theorem Io.kind(R:Io P G call N ops ms pl Tf Sf Vf){q:Nat×Oper×Nat}(hq:pl[k]? =some q)(hw:Yg ops.toList q.2.1 (Tf k)=true)(h3:QH P q.2.1.op≠3):
  Hn P (only q.2.1 (Ul G (Tf k))) q.2.1 (Sf k) (Vf k) (Sf (k+1)) (QH P q.2.1.op):=by
 have h:=R.op hq hw;rw[wP h3]at h;exact RY _ h
theorem Io.one(R:Io P G call N ops ms pl Tf Sf Vf){q:Nat×Oper×Nat}(hq:pl[k]? =some q)(h3:QH P q.2.1.op≠3):
  Sf (k+1)=Sf k∨(QH P q.2.1.op=2∧Yg ops.toList q.2.1 (Tf k)=true∧ ∃C,Sf (k+1)=⟨(Sf k).n+1,(Sf k).h.set (Sf k).n C⟩):=by
 cases hw:Yg ops.toList q.2.1 (Tf k)with
 |false=>exact .inl (R.idle hq hw).2
 |true=>
  have hk:=R.kind hq hw h3;generalize hkk:QH P q.2.1.op=kk at hk
  cases hk with
  |pure h1 _=>exact .inl h1
  |load _ _ _ h1 _ _ _=>exact .inl h1
  |text _ _ _ _ _ h1 _ _ _ _=>exact .inl h1
  |make C h1 _=>exact .inr ⟨rfl,rfl,C,h1⟩
  |act _ _=>exact absurd hkk h3
theorem Io.MK (R : Io P G call N ops ms pl Tf Sf Vf) (W : an G pl Tf Sf) {k1 : Nat} : ∀ k2, k1 ≤ k2 → k2 ≤ pl.length → (∀ k q, k1 ≤ k → k < k2 → pl[k]? = some q → QH P q.2.1.op ≠ 3) → ∀ c C, (Sf k1).h.get c = some C → (Sf k2).h.get c = some C := by
  intro k2
  induction k2 with
  | zero => intro h _ _ c C hc; have : k1 = 0 := by omega
            subst this; exact hc
  | succ k ih =>
    intro h hk hno c C hc;rcases Nat.lt_or_ge k k1 with hlt | hge
    · have : k1 = k + 1 := by omega
      subst this; exact hc
    · have hi := ih hge Qk (fun k' q h1 h2 => hno k' q h1 Qk) c C hc;have hq : pl[k]? = some pl[k] := List.getElem?_eq_getElem Qk;rcases R.one hq (hno k _ hge (Nat.lt_succ_self k) hq) with h | ⟨_, _, C', h⟩
      · rw [h]; exact hi
      · rw [h];show ((Sf k).h.set (Sf k).n C').get c = _;rw [Uq, VF _ _ (by rintro rfl; rw [W.fresh k Qk _ (Nat.le_refl _)] at hi; cases hi)];exact hi
theorem an.Oo (W : an G pl Tf Sf) {k1 : Nat} : ∀ k2, k1 ≤ k2 → k2 ≤ pl.length → (Sf k1).n ≤ (Sf k2).n := by
  intro k2
  induction k2 with
  | zero => intro h _; have : k1 = 0 := by omega
            subst this; exact Nat.le_refl _
  | succ k ih =>
    intro h hk;rcases Nat.lt_or_ge k k1 with hlt | hge
    · have : k1 = k + 1 := by omega
      subst this; exact Nat.le_refl _
    · exact Nat.le_trans (ih hge Qk) (W.ab k Qk).n
theorem an.oN(W:an G pl Tf Sf)(hk:k≤pl.length){x:Operand}(h:Ul G (Tf k) x=some v):WF (Sf k).h.get v:=by
 unfold Ul at h
 split at h
 ·injection h with h;subst h;exact W.tw k hk _
 ·exact(Ae (fun _ _=>none) _ h).2
 ·obtain⟨h1,h2⟩:=Qx h
  injection h2 with h2
  subst h2;exact W.go k hk _ h1
 ·injection h with h;subst h;exact⟨trivial,trivial⟩

structure WH(P:Program)(G:Env)(N:Nat)(ops:Array Oper)(pl:GO)(Tf:Nat→Tr AV)(Sf:Nat→St)(Vf:Nat→AV)(w0:World)(pS:Jy)(wS:World)(ds:List Deferred)(k0:Nat)(listed:Array Bool)(a:Act)(w:World)(p:Jy)(g:Hp):Prop where
 size:listed.size=ops.size
 closed: ∀j o,ops.toList[j]? =some o→listed.getD j false=true→ ∀e∈Y6 o,listed.getD e false=true
 k0le:k0≤pl.length
 pre: ∀(k:Nat) (q:Nat×Oper×Nat),k<k0→pl[k]? =some q→listed.getD q.1 false=true
 noact: ∀(k:Nat) (q:Nat×Oper×Nat),k0≤k→pl[k]? =some q→listed.getD q.1 false=true→QH P q.2.1.op≠3
 last:k0=0∨ ∃q:Nat×Oper×Nat,pl[k0-1]? =some q∧QH P q.2.1.op=3∧0<k0
 step:Step w0 pS wS p g w
 gok:KF w0 p G
 g1: ∀c C,(Sf k0).h.get c=some C→g c=some C
 g2: ∀(k:Nat) (q:Nat×Oper×Nat),k0≤k→pl[k]? =some q→listed.getD q.1 false=true→QH P q.2.1.op=2→Yg ops.toList q.2.1 (Tf k)=true→g (Sf k).n=(Sf (k+1)).h.get (Sf k).n
 g3: ∀c C,g c=some C→(∃C',(Sf k0).h.get c=some C')∨ ∃(k:Nat) (q:Nat×Oper×Nat),k0≤k∧pl[k]? =some q∧listed.getD q.1 false=true∧QH P q.2.1.op=2∧Yg ops.toList q.2.1 (Tf k)=true∧c=(Sf k).n
 tsize:a.tmps.size=N
 defers:a.defers=ds
 t1: ∀t,(∀(k:Nat) (q:Nat×Oper×Nat),pl[k]? =some q→listed.getD q.1 false=true→q.2.1.dst≠some t)→a.tmps.getD t undef=Qe p (Zc (Tf 0) t)∧WF g (Zc (Tf 0) t)
 t2: ∀(k:Nat) (q:Nat×Oper×Nat) (t:Nat),pl[k]? =some q→listed.getD q.1 false=true→q.2.1.dst=some t→a.tmps.getD t undef=Qe p (Vf k)∧WF g (Vf k)

theorem WN{listed:Array Bool}{j:Nat}(h:listed.getD j true=false):j<listed.size∧listed.getD j false=false:=by
 have hj:j<listed.size:=by
  rcases Nat.lt_or_ge j listed.size with h'|h'
  ·exact h'
  ·simp[Array.getD_eq_getD_getElem?,Array.getElem?_eq_none h']at h
 refine⟨hj,?_⟩
 simpa [Array.getD_eq_getD_getElem?,hj]using h
theorem Kb{listed:Array Bool}{j:Nat}(h:listed.getD j true=false)(i:Nat):(listed.setIfInBounds j true).getD i false=true↔listed.getD i false=true∨i=j:=by
 obtain⟨hj,_⟩:=WN h
 by_cases he:j=i
 ·subst he;simp[Array.getD_eq_getD_getElem?,hj]
 ·rw[Array.getD_eq_getD_getElem?,Array.getD_eq_getD_getElem?,Array.getElem?_setIfInBounds_ne he];constructor
  ·exact .inl
  ·rintro(h|h)
   ·exact h
   ·exact absurd h.symm he

variable {w0:World} {pS:Jy} {wS:World} {ds:List Deferred} {k0:Nat} {listed:Array Bool} {a:Act} {w:World} {p:Jy} {g:Hp}

theorem WH.put(D:WH P G N ops pl Tf Sf Vf w0 pS wS ds k0 listed a w p g)(R:Io P G call N ops ms pl Tf Sf Vf){k:Nat}{q:Nat×Oper×Nat}(hq:pl[k]? =some q)(hun:listed.getD q.1 true=false)
  {p':Jy} {g':Hp} (hle:Jy.le p p') (hg:Grow g g') (hv:WF g' (Vf k)):(a.put q.2.1.dst (Qe p' (Vf k))).tmps.size=N∧(a.put q.2.1.dst (Qe p' (Vf k))).defers=ds∧
  (∀t,(∀(k':Nat) (q':Nat×Oper×Nat),pl[k']? =some q'→(listed.setIfInBounds q.1 true).getD q'.1 false=true→q'.2.1.dst≠some t)→(a.put q.2.1.dst (Qe p' (Vf k))).tmps.getD t undef=Qe p' (Zc (Tf 0) t)∧WF g' (Zc (Tf 0) t))∧
  ∀(k':Nat) (q':Nat×Oper×Nat) (t:Nat),pl[k']? =some q'→(listed.setIfInBounds q.1 true).getD q'.1 false=true→q'.2.1.dst=some t→(a.put q.2.1.dst (Qe p' (Vf k))).tmps.getD t undef=Qe p' (Vf k')∧WF g' (Vf k'):=by
 have hcov:=D.step.hr.Ed
 have other: ∀t,q.2.1.dst≠some t→(a.put q.2.1.dst (Qe p' (Vf k))).tmps.getD t undef=a.tmps.getD t undef:=by
  intro t ht
  cases hd:q.2.1.dst with
  |none=>rfl
  |some d=>
   have:d≠t:=fun e=>ht (by rw[hd,e]);simp[Act.put,Array.getD_eq_getD_getElem?,Array.getElem?_setIfInBounds_ne this]
 refine⟨?_,?_,fun t h=>?_,fun k' q' t hq' hl hd=>?_⟩
 ·cases q.2.1.dst<;>simp[Act.put,D.tsize]
 ·cases q.2.1.dst<;>exact D.defers
 ·obtain⟨h1,h2⟩:=D.t1 t fun k' q' hq' hl=>h k' q' hq' ((Kb hun _).2 (.inl hl));rw[other t (h k q hq ((Kb hun _).2 (.inr rfl)))];exact⟨by rw[UQ hcov hle _ h2];exact h1,WF.grow hg _ h2⟩
 ·by_cases hk:k'=k
  ·subst hk;rw[hq]at hq'
   injection hq' with hq'
   subst hq';refine⟨?_,hv⟩;rcases(R.run k' q hq).2.1 with⟨h0,_⟩|⟨d,hdd,hdN,_⟩
   ·rw[h0]at hd;cases hd
   ·rw[hdd]at hd
    injection hd with hd
    subst hd;rw[hdd]
    have:d<a.tmps.size:=by rw[D.tsize];exact hdN
    simp[Act.put,Array.getD_eq_getD_getElem?,this]
  ·have hne:q'.1≠q.1:=fun e=>hk (R.inj hq' hq e);have hl':listed.getD q'.1 false=true:=((Kb hun _).1 hl).resolve_right hne;obtain⟨h1,h2⟩:=D.t2 k' q' t hq' hl' hd;rw[other t fun e=>hk (R.lV hq' hq hd e)];exact⟨by rw[UQ hcov hle _ h2];exact h1,WF.grow hg _ h2⟩

theorem WH.ahead(D:WH P G N ops pl Tf Sf Vf w0 pS wS ds k0 listed a w p g)(R:Io P G call N ops ms pl Tf Sf Vf){q:Nat×Oper×Nat}(hq:pl[k]? =some q)(hed: ∀e∈Y6 q.2.1,listed.getD e false=true):
  ∀i,Nat.testBit (Ik ms q.1) i=true→listed.getD i false=true:=
 vD R.mo (lst:=fun i=>listed.getD i false=true) D.closed q.1 q.2.1 (by rw[Array.getElem?_toList];exact(R.pos hq).1) hed
theorem WH.behind(D:WH P G N ops pl Tf Sf Vf w0 pS wS ds k0 listed a w p g)(R:Io P G call N ops ms pl Tf Sf Vf){q:Nat×Oper×Nat}(hq:pl[k]? =some q)(hl:listed.getD q.1 false=true):
  ∀i,Nat.testBit (Ik ms q.1) i=true→listed.getD i false=true:=
 D.ahead R hq fun e he=>D.closed q.1 q.2.1 (by rw[Array.getElem?_toList];exact(R.pos hq).1) hl e he
theorem WH.looks(D:WH P G N ops pl Tf Sf Vf w0 pS wS ds k0 listed a w p g)(R:Io P G call N ops ms pl Tf Sf Vf){q:Nat×Oper×Nat}(hq:pl[k]? =some q)(hun:listed.getD q.1 true=false)
  (hed: ∀e∈Y6 q.2.1,listed.getD e false=true) {t:Nat} (ht:t∈Fa ops.toList q.2.1):a.tmps.getD t undef=Qe p (Zc (Tf k) t)∧WF g (Zc (Tf k) t):=by
 have hkl:k<pl.length:=(List.getElem?_eq_some_iff.1 hq).1;have hnl:=(WN hun).2;have hah:=D.ahead R hq hed;obtain⟨tc1,tc2⟩:=R.aq k Qk t
 have pair: ∀k' q',pl[k']? =some q'→q'.2.1.dst=some t→k'≠k→Nat.testBit (Ik ms q.1) q'.1=true∨Nat.testBit (Ik ms q'.1) q.1=true:=by
  intro k' q' hq' hd hk
  have e1:ops.toList[q'.1]? =some q'.2.1:=by rw[Array.getElem?_toList];exact(R.pos hq').1
  have e2:ops.toList[q.1]? =some q.2.1:=by rw[Array.getElem?_toList];exact(R.pos hq).1
  exact(Lr R.tm e1 e2 hd fun e=>hk (R.inj hq' hq e)).2 ht
 by_cases hex: ∃(k':Nat) (q':Nat×Oper×Nat),pl[k']? =some q'∧listed.getD q'.1 false=true∧q'.2.1.dst=some t
 ·obtain⟨k',q',hq',hl,hd⟩:=hex
  have hkk:k'≠k:=by
   rintro rfl
   rw[hq]at hq'
   injection hq' with hq'
   subst hq';rw[hnl]at hl;cases hl
  rcases pair k' q' hq' hd hkk with h|h
  ·obtain⟨k2,q2,h1,h2,h3⟩:=(R.pos hq).2.2.1 _ h;have:=R.inj h2 hq' h3;subst this;rw[tc2 k2 q' h1 hq' hd];exact D.t2 k2 q' t hq' hl hd
  ·have:=D.behind R hq' hl _ h;rw[hnl]at this;cases this
 ·have hno: ∀(k':Nat) (q':Nat×Oper×Nat),pl[k']? =some q'→listed.getD q'.1 false=true→q'.2.1.dst≠some t:=fun k' q' h1 h2 h3=>hex ⟨k',q',h1,h2,h3⟩;rw[tc1 fun k' q' hk' hq' hd=>?_]
  ·exact D.t1 t hno
  ·rcases pair k' q' hq' hd Qk with h|h
   ·exact hno k' q' hq' (hah _ h) hd
   ·obtain⟨k2,q2,h1,h2,h3⟩:=(R.pos hq').2.2.1 _ h;have:=R.inj h2 hq h3;omega
theorem WH.fit(D:WH P G N ops pl Tf Sf Vf w0 pS wS ds k0 listed a w p g)(R:Io P G call N ops ms pl Tf Sf Vf){q:Nat×Oper×Nat}(hq:pl[k]? =some q)(hun:listed.getD q.1 true=false)
  (hed: ∀e∈Y6 q.2.1,listed.getD e false=true):Lm (only q.2.1 (Ul G (Tf k))) a.eval p g:=by
 intro x v hx;replace hx:=KT hx;obtain⟨hm,hx⟩:=hx;unfold Ul at hx
 split at hx
 ·injection hx with hx
  subst hx;exact D.looks R hq hun hed (jH hm)
 ·obtain⟨h1,h2⟩:=Ae p g hx;exact⟨h1.symm,h2⟩
 ·obtain⟨h1,h2⟩:=Qx hx
  injection h2 with h2
  subst h2;rename_i gg;obtain⟨e,he⟩:=D.gok.1 gg h1;obtain⟨C,hC,hmm⟩:=D.step.hr.dom gg 0 _ he;refine⟨?_,C,hC,hmm⟩;simp only[Qe,he,Act.eval,Nat.add_zero]
 ·injection hx with hx
  subst hx;exact⟨rfl,trivial,trivial⟩

theorem WH.upto(D:WH P G N ops pl Tf Sf Vf w0 pS wS ds k0 listed a w p g)(R:Io P G call N ops ms pl Tf Sf Vf)(W:an G pl Tf Sf): ∀k,k0≤k→k≤pl.length→(∀(k':Nat) (q':Nat×Oper×Nat),k'<k→pl[k']? =some q'→listed.getD q'.1 false=true)→
  (∀c C,(Sf k).h.get c=some C→g c=some C)∧
  (∀c C,g c=some C→(∃C',(Sf k).h.get c=some C')∨ ∃(k':Nat) (q':Nat×Oper×Nat),k≤k'∧pl[k']? =some q'∧listed.getD q'.1 false=true∧QH P q'.2.1.op=2∧Yg ops.toList q'.2.1 (Tf k')=true∧c=(Sf k').n):=by
 intro k
 induction k with
 |zero=>
  intro h _ _
  have:k0=0:=by omega
  subst this;exact⟨D.g1,D.g3⟩
 |succ k ih=>
  intro h hk hall;rcases Nat.lt_or_ge k k0 with hlt|hge
  ·have:k0=k+1:=by omega
   subst this;exact⟨D.g1,D.g3⟩
  ·obtain⟨i1,i2⟩:=ih hge Qk fun k' q' h1 h2=>hall k' q' Qk h2;have hq:pl[k]? =some pl[k]:=List.getElem?_eq_getElem Qk;have hl:=hall k _ (Nat.lt_succ_self k) hq;have h3:=D.noact k _ hge hq hl;rcases R.one hq h3 with he|⟨h2,hw,C',he⟩
   ·rw[he];refine⟨i1,fun c C hc=>?_⟩;rcases i2 c C hc with h|⟨k',q',h1,h2,h3,h4,h5,h6⟩
    ·exact .inl h
    ·rcases Nat.lt_or_ge k k' with hlt|hge'
     ·exact .inr ⟨k',q',hlt,h2,h3,h4,h5,h6⟩
     ·have:k'=k:=by omega
      subst this;rw[hq]at h2
      injection h2 with h2
      subst h2;left;have:=D.g2 k' _ hge hq hl h4 h5;rw[h6]at hc;rw[hc,he]at this;exact⟨C,by rw[h6];exact this.symm⟩
   ·have hgn:=D.g2 k _ hge hq hl h2 hw;refine⟨fun c C hc=>?_,fun c C hc=>?_⟩
    ·by_cases hcn:c=(Sf k).n
     ·subst hcn;rw[hgn];exact hc
     ·rw[he]at hc;have hc:((Sf k).h.set (Sf k).n C').get c=some C:=hc;rw[Uq,VF _ _ hcn]at hc;exact i1 c C hc
    ·rcases i2 c C hc with⟨C0,h⟩|⟨k',q',h1,h2',h3',h4,h5,h6⟩
     ·left;obtain⟨C1,h1,_⟩:=(W.ab k Qk).grow c C0 h;exact⟨C1,h1⟩
     ·rcases Nat.lt_or_ge k k' with hlt|hge'
      ·exact .inr ⟨k',q',hlt,h2',h3',h4,h5,h6⟩
      ·have:k'=k:=by omega
       subst this;left;rw[h6]at hc ⊢;rw[hgn]at hc;exact⟨C,hc⟩

def XV(P:Program)(pl:GO)(k0 k:Nat):Nat:=((List.range k).filter fun i=>decide (k0≤i)&&(match pl[i]? with|some q=>decide (QH P q.2.1.op=3)|none=>false)).length
theorem LU{P:Program}(pl:GO)(k0:Nat):XV P pl k0 k0=0:=by
 unfold XV;rw[List.length_eq_zero_iff,List.filter_eq_nil_iff];intro i hi;have:=List.mem_range.1 hi;simp;omega
theorem Sa{P:Program}(pl:GO){k0:Nat}{q:Nat×Oper×Nat}(h:k0≤k)(hq:pl[k]? =some q):XV P pl k0 (k+1)=XV P pl k0 k+if QH P q.2.1.op=3 then 1 else 0:=by
 unfold XV;rw[List.range_succ,List.filter_append,List.length_append]
 congr 1
 simp only[List.filter_cons,List.filter_nil,hq,decide_eq_true h,Bool.true_and]
 by_cases hk:QH P q.2.1.op=3
 ·simp[hk]
 ·simp[hk]
theorem Bd{P:Program}: ∀(pl:GO) (sn:List St) (Sf:Nat→St) (k:Nat) (q:Nat×Oper×Nat),pl[k]? =some q→Pe P sn pl Sf (k+1)=if QH P q.2.1.op=3 then Sf (k+1)::Pe P sn pl Sf k else Pe P sn pl Sf k:=by
 intro pl
 induction pl with
 |nil=>intro sn Sf k q h;simp at h
 |cons a pl ih=>
  intro sn Sf k q h
  cases k with
  |zero=>
   simp at h;subst h;simp only[Pe]
  |succ k=>
   have:=ih (if QH P a.2.1.op=3 then Sf 1::sn else sn) (fun j=>Sf (j+1)) k q (by simpa using h);exact this
theorem RZ{P:Program}: ∀(pl:GO) (acts:List Nat) (k:Nat) (q:Nat×Oper×Nat),pl[k]? =some q→Ef P acts pl (k+1)=if QH P q.2.1.op=3 then q.1::Ef P acts pl k else Ef P acts pl k:=by
 intro pl
 induction pl with
 |nil=>intro acts k q h;simp at h
 |cons a pl ih=>
  intro acts k q h
  cases k with
  |zero=>
   simp at h;subst h;simp only[Ef]
  |succ k=>exact ih _ k q (by simpa using h)
theorem WH.snap(D:WH P G N ops pl Tf Sf Vf w0 pS wS ds k0 listed a w p g)(m:Nat): ∀k,k0≤k→k≤pl.length→(∀(k':Nat) (q':Nat×Oper×Nat),k0≤k'→k'<k→pl[k']? =some q'→QH P q'.2.1.op=3→Nat.testBit m q'.1=false)→
  (Pe P [Sf 0] pl Sf k)[XV P pl k0 k]? =some (Sf k0)∧XV P pl k0 k≤Ff m (Ef P [] pl k):=by
 intro k
 induction k with
 |zero=>
  intro h _ _
  have:k0=0:=by omega
  subst this;rw[LU];refine⟨?_,Nat.zero_le _⟩
  cases pl<;>rfl
 |succ k ih=>
  intro h hk hall;rcases Nat.lt_or_ge k k0 with hlt|hge
  ·have:k0=k+1:=by omega
   subst this;rw[LU];refine⟨?_,Nat.zero_le _⟩;rcases D.last with h0|⟨q,hq,h3,_⟩
   ·omega
   ·rw[Nat.add_sub_cancel]at hq;rw[Bd pl _ Sf k q hq,if_pos h3];rfl
  ·have hq:pl[k]? =some pl[k]:=List.getElem?_eq_getElem Qk;obtain⟨i1,i2⟩:=ih hge Qk fun k' q' h1 h2=>hall k' q' h1 Qk;rw[Sa pl hge hq,Bd pl _ Sf k _ hq,RZ pl _ k _ hq]
   by_cases h3:QH P pl[k].2.1.op=3
   ·rw[if_pos h3,if_pos h3,if_pos h3];refine⟨by simpa using i1,?_⟩;show _≤Ql (Nat.testBit m pl[k].1) (Ff m (Ef P [] pl k)) (Ff m (Ef P [] pl k)+1);rw[hall k _ hge (Nat.lt_succ_self k) hq h3,QL];omega
   ·rw[if_neg h3,if_neg h3,if_neg h3];exact⟨i1,i2⟩

theorem Oz{t:TypeId}{c m off:Nat}{h':Hp}(he:h c=h' c):JB P t (.ptr c m off) h=JB P t (.ptr c m off) h':=by
 simp only[JB,rowOf,he]
theorem BC{t:TypeId}{x:AV}(hl:JB P t x h=some v): ∃c m off C,x=.ptr c m off∧h c=some C:=by
 unfold JB at hl
 split at hl
 ·rename_i c m off;obtain⟨r,hr,_⟩:=Qm hl;obtain⟨C,hC,_⟩:=Qm hr;exact⟨c,m,off,C,rfl,hC⟩
 ·cases hl

theorem RN{c m off n z:Nat}{h':Hp}(he:h c=h' c):Ee (.sl c m off n z) h=Ee (.sl c m off n z) h':=by
 simp only[Ee,rowOf,he]
theorem TJ{x:AV}(hl:Ee x h=some v):x=.nils∨ ∃c m off n z C,x=.sl c m off n z∧h c=some C:=by
 unfold Ee at hl
 split at hl
 ·exact .inl rfl
 ·rename_i c m off n z;obtain⟨r,hr,_⟩:=Qm hl;obtain⟨C,hC,_⟩:=Qm hr;exact .inr ⟨c,m,off,n,z,C,rfl,hC⟩
 ·cases hl

theorem WH.next(D:WH P G N ops pl Tf Sf Vf w0 pS wS ds k0 listed a w p g)(R:Io P G call N ops ms pl Tf Sf Vf)(W:an G pl Tf Sf)(hcall:Eg P G call){q:Nat×Oper×Nat}(hq:pl[k]? =some q)(hun:listed.getD q.1 true=false)
  (hed: ∀e∈Y6 q.2.1,listed.getD e false=true) {K:Act→World→Prop} {Q:Exit→Act→World→Prop} {r:Option Nat}
  (hK: ∀k0' a' w' p' g',WH P G N ops pl Tf Sf Vf w0 pS wS ds k0' (listed.setIfInBounds q.1 true) a' w' p' g'→K a' w'):wpOpIn (FR r) 0 P ops Q q.1 K a w:=by
 have hkl:k<pl.length:=(List.getElem?_eq_some_iff.1 hq).1;obtain⟨hjs,hnl⟩:=WN hun;have hops:=(R.pos hq).1
 have hk0:k0≤k:=Nat.le_of_not_lt fun h=>by rw[D.pre k q h hq]at hnl;cases hnl
 have hah:=D.ahead R hq hed;have hfit:=D.fit R hq hun hed;have hset:=Kb hun
 have hcl': ∀j o,ops.toList[j]? =some o→(listed.setIfInBounds q.1 true).getD j false=true→ ∀e∈Y6 o,(listed.setIfInBounds q.1 true).getD e false=true:=by
  intro j o hj hl e he;rcases(hset j).1 hl with h|h
  ·exact(hset e).2 (.inl (D.closed j o hj h e he))
  ·subst h;rw[Array.getElem?_toList,hops]at hj
   injection hj with hj
   subst hj;exact(hset e).2 (.inl (hed e he))
 have hwant:Region.wanted q.2.1 (yielded ops a.tmps)=Yg ops.toList q.2.1 (Tf k):=
  DJ (p:=p) D.tsize fun gg t hg ht=>(D.looks R hq hun hed (PL hg ht)).1

 have stay: ∀(w':World) (p':Jy) (g':Hp),QH P q.2.1.op≠3→Step w0 p w p' g' w'→Grow g g'→WF g' (Vf k)→(∀c C,(Sf k0).h.get c=some C→g' c=some C)→
   (∀(k':Nat) (q':Nat×Oper×Nat),k0≤k'→pl[k']? =some q'→listed.getD q'.1 false=true→QH P q'.2.1.op=2→Yg ops.toList q'.2.1 (Tf k')=true→g' (Sf k').n=(Sf (k'+1)).h.get (Sf k').n)→
   (QH P q.2.1.op=2→Yg ops.toList q.2.1 (Tf k)=true→g' (Sf k).n=(Sf (k+1)).h.get (Sf k).n)→
   (∀c C,g' c=some C→(∃C',g c=some C')∨(QH P q.2.1.op=2∧Yg ops.toList q.2.1 (Tf k)=true∧c=(Sf k).n))→K (a.put q.2.1.dst (Qe p' (Vf k))) w':=by
  intro w' p' g' h3 hs hg hv hg1 hg2 hg2' hg3;obtain⟨e1,e2,e3,e4⟩:=D.put R hq hun hs.le hg hv;refine hK k0 _ w' p' g' ⟨by simpa using D.size,hcl',D.k0le,fun k' q' h h'=>(hset _).2 (.inl (D.pre k' q' h h')),fun k' q' h h' hl=>?_,D.last,D.step.trans hs,D.gok.le hs.le,hg1,fun k' q' h h' hl h2 hw=>?_,fun c C hc=>?_,e1,e2,e3,e4⟩
  ·rcases(hset _).1 hl with hl|hl
   ·exact D.noact k' q' h h' hl
   ·have:=R.inj h' hq hl;subst this;rw[hq]at h'
    injection h' with h'
    subst h';exact h3
  ·rcases(hset _).1 hl with hl|hl
   ·exact hg2 k' q' h h' hl h2 hw
   ·have:=R.inj h' hq hl;subst this;rw[hq]at h'
    injection h' with h'
    subst h';exact hg2' h2 hw
  ·rcases hg3 c C hc with⟨C',h⟩|⟨h2,hw,h⟩
   ·rcases D.g3 c C' h with h|⟨k',q',h1,h2,h3,h4,h5,h6⟩
    ·exact .inl h
    ·exact .inr ⟨k',q',h1,h2,(hset _).2 (.inl h3),h4,h5,h6⟩
   ·exact .inr ⟨k,q,hk0,hq,(hset _).2 (.inr rfl),h2,hw,h⟩

 have goes: ∀(w':World) (p':Jy) (g':Hp),QH P q.2.1.op=3→Step w0 p w p' g' w'→Grow g g'→WF g' (Vf k)→(∀c C,(Sf (k+1)).h.get c=some C→g' c=some C)→
   (∀c,(Sf (k+1)).h.get c=none→g' c=g c)→K (a.put q.2.1.dst (Qe p' (Vf k))) w':=by
  intro w' p' g' h3 hs hg hv hg1 hg2;have hall: ∀(k':Nat) (q':Nat×Oper×Nat),k'<k→pl[k']? =some q'→listed.getD q'.1 false=true:=fun k' q' h h'=>hah _ ((R.pos hq).2.2.2.1 h3 k' q' h h');obtain⟨b1,b2⟩:=D.upto R W k hk0 Qk hall;obtain⟨e1,e2,e3,e4⟩:=D.put R hq hun hs.le hg hv
  have old: ∀k' q',k+1≤k'→pl[k']? =some q'→(listed.setIfInBounds q.1 true).getD q'.1 false=true→listed.getD q'.1 false=true:=fun k' q' h h' hl=>by
   rcases(hset _).1 hl with hl|hl
   ·exact hl
   ·have:=R.inj h' hq hl;omega
  refine hK (k+1) _ w' p' g' ⟨by simpa using D.size,hcl',by omega,fun k' q' h h'=>?_,fun k' q' h h' hl=>D.noact k' q' Qk h' (old k' q' h h' hl),.inr ⟨q,by simpa using hq,h3,by omega⟩,D.step.trans hs,D.gok.le hs.le,hg1,fun k' q' h h' hl h2 hw=>?_,fun c C hc=>?_,e1,e2,e3,e4⟩
  ·rcases Nat.lt_or_ge k' k with hlt|hge
   ·exact(hset _).2 (.inl (hall k' q' hlt h'))
   ·have:k'=k:=by omega
    subst this;rw[hq]at h'
    injection h' with h'
    subst h';exact(hset _).2 (.inr rfl)
  ·have hn:(Sf (k+1)).h.get (Sf k').n=none:=W.fresh (k+1) Qk _ (W.Oo k' h (by have:=(List.getElem?_eq_some_iff.1 h').1;omega));rw[hg2 _ hn];exact D.g2 k' q' Qk h' (old k' q' h h' hl) h2 hw
  ·cases hc1:(Sf (k+1)).h.get c with
   |some C1=>exact .inl ⟨C1,rfl⟩
   |none=>
    rw[hg2 c hc1]at hc;rcases b2 c C hc with⟨C0,h⟩|⟨k',q',h1,h2,h3',h4,h5,h6⟩
    ·obtain⟨C2,h2,_⟩:=(W.ab k hkl).grow c C0 h;rw[hc1]at h2;cases h2
    ·have hne:k'≠k:=by
      rintro rfl
      rw[hq]at h2
      injection h2 with h2
      subst h2;rw[hnl]at h3';cases h3'
     exact .inr ⟨k',q',by omega,h2,(hset _).2 (.inl h3'),h4,h5,h6⟩
 unfold wpOpIn;rw[hops];simp only[hwant]
 cases hw:Yg ops.toList q.2.1 (Tf k)with
 |false=>
  simp only[Bool.false_eq_true,if_false];refine⟨fun _ _=>trivial,?_⟩;obtain⟨i1,i2⟩:=R.idle hq hw
  have hund:undef=Qe p (Vf k):=by rw[i1];rfl
  rw[hund]
  by_cases h3:QH P q.2.1.op=3
  ·have hall: ∀(k':Nat) (q':Nat×Oper×Nat),k'<k→pl[k']? =some q'→listed.getD q'.1 false=true:=fun k' q' h h'=>hah _ ((R.pos hq).2.2.2.1 h3 k' q' h h');obtain⟨b1,_⟩:=D.upto R W k hk0 Qk hall;exact goes w p g h3 (Step.refl D.step.hr) (Grow.refl g) (by rw[i1];exact trivial) (by rw[i2];exact b1) fun _ _=>rfl
  ·exact stay w p g h3 (Step.refl D.step.hr) (Grow.refl g) (by rw[i1];exact trivial) D.g1 D.g2 (fun _ h=>by rw[hw]at h;cases h) fun c C hc=>.inl ⟨C,hc⟩
 |true=>
  simp only[if_true]
  by_cases h3:QH P q.2.1.op=3
  ·
   have hall: ∀(k':Nat) (q':Nat×Oper×Nat),k'<k→pl[k']? =some q'→listed.getD q'.1 false=true:=fun k' q' h h'=>hah _ ((R.pos hq).2.2.2.1 h3 k' q' h h');obtain⟨b1,b2⟩:=D.upto R W k hk0 Qk hall;have hcut:=D.step.hr.cut b1 (W.wf k Qk)
   have hgok:KF w0 (Eu (Sf k).h.get p) G:=⟨fun gg hg=>by
    obtain⟨e,he⟩:=D.gok.1 gg hg;obtain⟨C,hC,_⟩:=W.go k Qk gg hg
    exact⟨e,by rw[Et hC];exact he⟩,D.gok.2⟩
   have hfit':Lm (only q.2.1 (Ul G (Tf k))) a.eval (Eu (Sf k).h.get p) (Sf k).h.get:=fun x v hx=>by
    have hwf:=W.oN Qk (KT hx).2;exact⟨by rw[(hfit x v hx).1,UQ hcut.Ed (fun c m y hy=>(U5 hy).2) v hwf],hwf⟩
   obtain⟨hab,_,hwp⟩:=z6 hcall (R.op hq hw) (W.fresh k Qk) hcut hgok hfit';refine hwp r K Q fun p1 w1 hs1 hv1=>?_
   have hout: ∀c,(Sf k).h.get c=none→(∃C,g c=some C)→(Sf (k+1)).h.get c=none:=by
    rintro c hc ⟨C,hgc⟩
    rcases b2 c C hgc with⟨C0,h⟩|⟨k',q',h1,h2,h3',h4,h5,h6⟩
    ·rw[hc]at h;cases h
    ·have hne:k'≠k:=by
      rintro rfl
      rw[hq]at h2
      injection h2 with h2
      subst h2;rw[hnl]at h3';cases h3'
     rw[h6];exact W.fresh (k+1) Qk _ (W.Oo k' Qk (by have:=(List.getElem?_eq_some_iff.1 h2).1;omega))
   have hj:=D.step.hr.join b1 hs1 hab.grow hout
   have hle1:Jy.le p1 (Hy (Sf (k+1)).h.get p1 p):=fun c m x hx=>by
    obtain⟨C,hC,_⟩:=hs1.hr.dom c m x hx;rw[Zv hC];exact hx
   rw[←UQ hs1.hr.Ed hle1 _ hv1];refine goes w1 _ _ h3 hj (BF b1 hab.grow hout) (WF.grow (fun c C hc=>⟨C,Wa hc,List.prefix_refl _⟩) _ hv1) (fun c C hc=>Wa hc) fun c hc=>Al hc
  ·have hkind:=R.kind hq hw h3;have hroom:Room p g:=fun c m C e h1 h2=>D.step.hr.room c m C e h1 h2;generalize hkk:QH P q.2.1.op=kk at hkind h3
   cases hkind with
   |pure h1 h2=>
    obtain⟨r1,r2⟩:=h2 g (fun x v hx=>(hfit x v hx).2) p w a.eval D.step.hr.Ed hroom hfit;refine Eh r1 ?_;exact stay w p g (by rw[hkk];decide) (Step.refl D.step.hr) (Grow.refl g) r2 D.g1 D.g2 (fun h=>by rw[hkk]at h;cases h) fun c C hc=>.inl ⟨C,hc⟩
   |load t ad x h1 h2 hx hld=>
    have hxw:=(hfit ad x hx).2;have hx':=(KT hx).2

    have hnow:JB P t x g=some (Vf k):=by
     by_cases hno: ∀(k':Nat) (q':Nat×Oper×Nat),k0≤k'→k'<k→pl[k']? =some q'→QH P q'.2.1.op≠3
     ·obtain⟨c,m,off,C,rfl,hC⟩:=BC hld;obtain⟨Cg,hg,_⟩:=hxw
      have he:g c=(Sf k).h.get c:=by
       rcases D.g3 c Cg hg with⟨C',h⟩|⟨k',q',h1',h2',h3',h4,h5,h6⟩
       ·rw[D.g1 c C' h,R.MK W k hk0 Qk (fun k' q' a b d=>hno k' q' a b d) c C' h]
       ·have hlt:k'<k:=by
         refine Nat.lt_of_not_le fun hge=>?_;rw[h6,W.fresh k Qk _ (W.Oo k' hge (by have:=(List.getElem?_eq_some_iff.1 h2').1;omega))]at hC;cases hC
        have hgn:=D.g2 k' q' h1' h2' h3' h4 h5;rw[h6]at hg;rw[h6,hgn];rw[hgn]at hg;rw[hg];exact(R.MK W k Qk Qk (fun k2 q2 a b d=>hno k2 q2 Qk b d) _ Cg hg).symm
      rw[Oz he];exact hld
     ·
      have hmask: ∀(k':Nat) (q':Nat×Oper×Nat),k0≤k'→k'<k→pl[k']? =some q'→QH P q'.2.1.op=3→Nat.testBit (Ik ms q.1) q'.1=false:=by
       intro k' q' h h' hq' hk3
       cases hb:Nat.testBit (Ik ms q.1) q'.1 with
       |false=>rfl
       |true=>exact absurd hk3 (D.noact k' q' h hq' (hah _ hb))
      obtain⟨s1,s2⟩:=D.snap (Ik ms q.1) k hk0 Qk hmask;rw[←(R.pos hq).2.2.2.2 hkk]at s2
      have hpos:0<XV P pl k0 k:=by
       refine Nat.pos_of_ne_zero fun h0=>hno fun k' q' h h' hq' hk3=>?_
       have hmem:k'∈(List.range k).filter fun i=>decide (k0≤i)&&(match pl[i]? with|some q=>decide (QH P q.2.1.op=3)|none=>false):=by
        rw[List.mem_filter];exact⟨List.mem_range.2 h',by rw[hq'];simp[h,hk3]⟩
       unfold XV at h0;rw[List.length_eq_zero_iff]at h0;rw[h0]at hmem;cases hmem
      obtain⟨st,x',e1,e2,e3⟩:=TT h2 q.2.2 _ ((R.run k q hq).2.2 hw) (XV P pl k0 k-1) Qk;rw[List.getElem?_tail,show XV P pl k0 k-1+1=XV P pl k0 k by omega,s1]at e1
      injection e1 with e1
      subst e1;rw[hx']at e2
      injection e2 with e2
      subst e2;obtain⟨c,m,off,C,rfl,hC⟩:=BC e3;rw[←e3];exact Oz (by rw[D.g1 c C hC,hC])
    obtain⟨r1,r2⟩:=Wp hnow D.step.hr
    have hrun:(execOp a.eval q.2.1).run P w=.ok (.value (Qe p (Vf k))) w:=by
     obtain⟨i,⟨dst,op,type,pos,after,guard⟩,r⟩:=q;simp only at h2;subst h2;simp only[execOp,(hfit ad x hx).1,Sem.run_bind,r1,Result.andThen_ok,Sem.run_pure]
    refine Eh hrun ?_;exact stay w p g (by rw[hkk];decide) (Step.refl D.step.hr) (Grow.refl g) r2 D.g1 D.g2 (fun h=>by rw[hkk]at h;cases h) fun c C hc=>.inl ⟨C,hc⟩
   |text sx dx ex ad x h1 h2 hx hld hty=>
    have hxw:=(hfit ad x hx).2

    have hno: ∀(k':Nat) (q':Nat×Oper×Nat),k0≤k'→k'<k→pl[k']? =some q'→QH P q'.2.1.op≠3:=by
     apply Classical.byContradiction;intro hno
     have hmask: ∀(k':Nat) (q':Nat×Oper×Nat),k0≤k'→k'<k→pl[k']? =some q'→QH P q'.2.1.op=3→Nat.testBit (Ik ms q.1) q'.1=false:=by
      intro k' q' h h' hq' hk3
      cases hb:Nat.testBit (Ik ms q.1) q'.1 with
      |false=>rfl
      |true=>exact absurd hk3 (D.noact k' q' h hq' (hah _ hb))
     obtain⟨s1,s2⟩:=D.snap (Ik ms q.1) k hk0 Qk hmask;rw[←(R.pos hq).2.2.2.2 hkk]at s2
     have hpos:0<XV P pl k0 k:=by
      refine Nat.pos_of_ne_zero fun h0=>hno fun k' q' h h' hq' hk3=>?_
      have hmem:k'∈(List.range k).filter fun i=>decide (k0≤i)&&(match pl[i]? with|some q=>decide (QH P q.2.1.op=3)|none=>false):=by
       rw[List.mem_filter];exact⟨List.mem_range.2 h',by rw[hq'];simp[h,hk3]⟩
      unfold XV at h0;rw[List.length_eq_zero_iff]at h0;rw[h0]at hmem;cases hmem
     exact TS h2 Qk ((R.run k q hq).2.2 hw)
    have hnow:Ee x g=some (Vf k):=by
     rcases TJ hld with rfl|⟨c,m,off,nn,z,C,rfl,hC⟩
     ·exact hld
     ·obtain⟨Cg,_,hg,_⟩:=hxw
      have he:g c=(Sf k).h.get c:=by
       rcases D.g3 c Cg hg with⟨C',h⟩|⟨k',q',h1',h2',h3',h4,h5,h6⟩
       ·rw[D.g1 c C' h,R.MK W k hk0 Qk (fun k' q' a b d=>hno k' q' a b d) c C' h]
       ·have hlt:k'<k:=by
         refine Nat.lt_of_not_le fun hge=>?_;rw[h6,W.fresh k Qk _ (W.Oo k' hge (by have:=(List.getElem?_eq_some_iff.1 h2').1;omega))]at hC;cases hC
        have hgn:=D.g2 k' q' h1' h2' h3' h4 h5;rw[h6]at hg;rw[h6,hgn];rw[hgn]at hg;rw[hg];exact(R.MK W k Qk Qk (fun k2 q2 a b d=>hno k2 q2 Qk b d) _ Cg hg).symm
      rw[RN he];exact hld
    obtain⟨r1,r2⟩:=BZ (P:=P) hnow hty.1 hty.2.1 hty.2.2 D.step.hr
    have hrun:(execOp a.eval q.2.1).run P w=.ok (.value (Qe p (Vf k))) w:=by
     obtain⟨i,⟨dst,op,type,pos,after,guard⟩,r⟩:=q;simp only at h2;subst h2;simp only[execOp,(hfit ad x hx).1,Sem.run_bind,r1,Result.andThen_ok,Sem.run_pure]
    refine Eh hrun ?_;exact stay w p g (by rw[hkk];decide) (Step.refl D.step.hr) (Grow.refl g) r2 D.g1 D.g2 (fun h=>by rw[hkk]at h;cases h) fun c C hc=>.inl ⟨C,hc⟩
   |make C h1 h2=>
    have hgn:g (Sf k).n=none:=by
     cases hg:g (Sf k).n with
     |none=>rfl
     |some C'=>
      rcases D.g3 _ C' hg with⟨C0,h⟩|⟨k',q',h1',h2',h3',h4,h5,h6⟩
      ·rw[W.fresh k0 D.k0le _ (W.Oo k hk0 Qk)]at h;cases h
      ·exfalso
       have hk':=(List.getElem?_eq_some_iff.1 h2').1
       have inc: ∀k2 q2,pl[k2]? =some q2→QH P q2.2.1.op=2→Yg ops.toList q2.2.1 (Tf k2)=true→(Sf k2).n<(Sf (k2+1)).n:=fun k2 q2 a b d=>by
        rcases R.one a (by rw[b];decide)with h|⟨_,_,C2,h⟩
        ·have hk2:=R.kind a d (by rw[b];decide);rw[b]at hk2
         cases hk2 with
         |make C2 h' _=>rw[h'];simp
        ·rw[h];simp
       rcases Nat.lt_trichotomy k k' with hlt|he|hlt
       ·have:=inc k q hq hkk hw;have:=W.Oo k' (k1:=k+1) hlt Qk;omega
       ·subst he;rw[hq]at h2'
        injection h2' with h2'
        subst h2';rw[hnl]at h3';cases h3'
       ·have:=inc k' q' h2' h4 h5;have:=W.Oo k (k1:=k'+1) hlt Qk;omega
    obtain⟨r1,r2⟩:=h2 g hgn fun x v hx=>(hfit x v hx).2;obtain⟨p',w',r3,r4⟩:=r2 w0 p w a.eval D.step.hr hfit;refine Eh r3 ?_;refine stay w' p' _ (by rw[hkk];decide) r4 (ZH fun C' hC'=>by rw[hgn]at hC';cases hC') r1 (fun c C' hc=>?_) (fun k' q' h h' hl h4 h5=>?_) (fun _ _=>?_) fun c C' hc=>?_
    ·rw[VF _ _ (by rintro rfl;rw[D.g1 _ C' hc]at hgn;cases hgn)];exact D.g1 c C' hc
    ·have hgg:=D.g2 k' q' h h' hl h4 h5;rw[VF _ _ fun e=>?_]
     ·exact hgg
     ·rw[e,hgn]at hgg;have hk2:=R.kind h' h5 (by rw[h4];decide);rw[h4]at hk2
      cases hk2 with
      |make C2 h6 _=>
       rw[h6]at hgg;have hgg:none=((Sf k').h.set (Sf k').n C2).get (Sf k).n:=hgg;rw[Uq,e,UG]at hgg;cases hgg
    ·rw[h1];show _=((Sf k).h.set (Sf k).n C).get (Sf k).n;rw[Uq,UG,UG]
    ·by_cases hcn:c=(Sf k).n
     ·exact .inr ⟨hkk,hw,hcn⟩
     ·rw[VF _ _ hcn]at hc;exact .inl ⟨C',hc⟩
   |act _ _=>exact absurd rfl h3

theorem WH.all(R:Io P G call N ops ms pl Tf Sf Vf)(W:an G pl Tf Sf)(hcall:Eg P G call){Q:Exit→Act→World→Prop}{r:Option Nat}
  (hQ: ∀p' w' a',Step w0 pS wS p' (Sf pl.length).h.get w'→TR p' (Sf pl.length).h.get (Tf pl.length) a' N ds→Q .normal a' w'):
  ∀(fuel:Nat) (listed:Array Bool) (k0:Nat) (a:Act) (w:World) (p:Jy) (g:Hp),WH P G N ops pl Tf Sf Vf w0 pS wS ds k0 listed a w p g→listed.toList.count true+fuel=ops.size→wpAnyIn (FR r) 0 P .any ops Q fuel listed a w:=by

 have fin: ∀(listed:Array Bool) (k0:Nat) (a:Act) (w:World) (p:Jy) (g:Hp),WH P G N ops pl Tf Sf Vf w0 pS wS ds k0 listed a w p g→(∀j,j<ops.size→listed.getD j false=true)→Q .normal a w:=by
  intro listed k0 a w p g D hall;have hl: ∀(k':Nat) (q':Nat×Oper×Nat),pl[k']? =some q'→listed.getD q'.1 false=true:=fun k' q' h=>hall _ (Array.getElem?_eq_some_iff.1 (R.pos h).1).1;obtain⟨b1,b2⟩:=D.upto R W pl.length D.k0le (Nat.le_refl _) fun k' q' _ h=>hl k' q' h
  have hgeq:g=(Sf pl.length).h.get:=by
   funext c
   cases hc:g c with
   |none=>
    cases hs:(Sf pl.length).h.get c with
    |none=>rfl
    |some C=>rw[b1 c C hs]at hc;cases hc
   |some C=>
    rcases b2 c C hc with⟨C',h⟩|⟨k',q',h1,h2,_⟩
    ·rw[h,←hc,b1 c C' h]
    ·have:=(List.getElem?_eq_some_iff.1 h2).1;omega
  subst hgeq;refine hQ p w a D.step ⟨D.tsize,fun t=>?_,D.defers⟩;obtain⟨tc1,tc2⟩:=R.aq pl.length (Nat.le_refl _) t
  by_cases hex: ∃(k':Nat) (q':Nat×Oper×Nat),pl[k']? =some q'∧q'.2.1.dst=some t
  ·obtain⟨k',q',hq',hd⟩:=hex;rw[tc2 k' q' (List.getElem?_eq_some_iff.1 hq').1 hq' hd];exact D.t2 k' q' t hq' (hl k' q' hq') hd
  ·rw[tc1 fun k' q' _ hq' hd=>hex ⟨k',q',hq',hd⟩];exact D.t1 t fun k' q' hq' _ hd=>hex ⟨k',q',hq',hd⟩

 have done: ∀(listed:Array Bool) (k0:Nat) (a:Act) (w:World) (p:Jy) (g:Hp),WH P G N ops pl Tf Sf Vf w0 pS wS ds k0 listed a w p g→Region.ready .any ops listed=[]→ ∀j,j<ops.size→listed.getD j false=true:=by
  intro listed k0 a w p g D hr j
  induction j using Nat.strongRecOn with
  |_ j ih=>
   intro hj
   cases hb:listed.getD j false with
   |true=>rfl
   |false=>
    exfalso
    have hjl:j<listed.size:=by rw[D.size];exact hj
    have hun:listed.getD j true=false:=by
     rw[Array.getD_eq_getD_getElem?]at hb ⊢
     simpa [hjl]using hb
    have hoj:ops[j]? =some ops[j]:=Array.getElem?_eq_getElem hj
    have hmem:j∈Region.ready .any ops listed:=mem_ready.2 ⟨hun,ops[j],hoj,fun e he hbi=>by
     have hee:e.on∈Y6 ops[j]:=List.mem_map.2 ⟨e,List.mem_filter.2 ⟨by simpa using he,hbi⟩,rfl⟩;have:=(L8 R.mo j ops[j] (by rw[Array.getElem?_toList];exact hoj)).1 _ hee
     exact ih _ this Qk⟩
    rw[hr]at hmem;cases hmem
 intro fuel
 induction fuel with
 |zero=>
  intro listed k0 a w p g D hcnt
  have hall: ∀j,j<ops.size→listed.getD j false=true:=fun j hj=>by
   have hlen:listed.toList.count true=listed.toList.length:=by rw[Array.length_toList,D.size];omega
   have hjl:j<listed.size:=by rw[D.size];exact hj
   have:=List.count_eq_length.1 hlen listed[j] Q1;rw[Array.getD_eq_getD_getElem?];simp[hjl];exact this.symm
  refine⟨?_,fin listed k0 a w p g D hall⟩
  cases hr:Region.ready .any ops listed with
  |nil=>rfl
  |cons j rs=>
   have hj:j∈Region.ready .any ops listed:=by rw[hr];simp
   obtain⟨h0,o,ho,_⟩:=mem_ready.1 hj;have:=hall j (Array.getElem?_eq_some_iff.1 ho).1;rw[(WN h0).2]at this;cases this
 |succ fuel ih=>
  intro listed k0 a w p g D hcnt;refine⟨fun hr=>fin listed k0 a w p g D (done listed k0 a w p g D hr),fun j hj=>?_⟩;obtain⟨h0,o,ho,hed⟩:=mem_ready.1 hj
  have hjn:j<ops.toList.length:=by rw[Array.length_toList];exact(Array.getElem?_eq_some_iff.1 ho).1
  rcases zj pl 0 [] R.pa j hjn with h|⟨k,q,hq,hqj⟩
  ·simp at h
  ·subst hqj;have hoq:=(R.pos hq).1;rw[ho]at hoq
   injection hoq with hoq
   subst hoq;refine D.next R W hcall hq h0 (fun e he=>?_) fun k0' a' w' p' g' D'=>ih _ k0' a' w' p' g' D' ?_
   ·obtain⟨ed,hed',rfl⟩:=List.mem_map.1 he;obtain⟨h1,h2⟩:=List.mem_filter.1 hed';exact hed ed (by simpa using h1) h2
   ·rw[count_set h0];omega

end

theorem P6{P:Program}{ops:List Oper}{pl:GO}(h:WZ P ops=some pl):Ow ops (AZ ops)=true∧Cs ops (AZ ops)=true∧Ln P ops (AZ ops) ops.length 0 [] pl:=by
 unfold WZ at h;obtain⟨h1,h⟩:=Qx h;obtain⟨h2,h⟩:=Qx h;rw[Ur]at h;exact⟨h1,h2,SP _ 0 [] pl h⟩
theorem Km{P:Program}{G:Env}(hm:P.follows .mixedOrders=true):TY P G:=by
 intro call hcall N ops pl hpl T T' st st' h hf w0 p w a ds H hG hT;obtain⟨h1,h2,h3⟩:=P6 hpl;obtain⟨Tf,Sf,Vf,e1,e2,e3,e4,e5⟩:=trace pl T T' st st' [st] h;subst e1 e2 e3 e4;have R:Io P G call N ops (AZ ops.toList) pl Tf Sf Vf:=⟨h1,h2,h3,e5⟩;have W:=R.oT hcall hf H hG hT;obtain⟨r1,r2,_⟩:=R.real hcall hf H hG hT pl.length (Nat.le_refl _);refine⟨r1,r2,fun r id Q hQ=>wpIn_region_any hm ?_⟩;have hd:=Step.drew H (w.drawn+1);refine WH.all (w0:=w0) (pS:=p) (wS:=w) R W hcall hQ ops.size (Array.replicate ops.size false) 0 a _ p (Sf 0).h.get ?_ (by simp[List.count_replicate])
 have hno: ∀j,(Array.replicate ops.size false).getD j false=false:=fun j=>by
  rw[Array.getD_eq_getD_getElem?,Array.getElem?_replicate]
  split<;>rfl
 refine⟨by simp,fun j o _ hl=>(by rw[hno]at hl;cases hl),Nat.zero_le _,fun k q hk=>Qk,fun k q _ _ hl=>(by rw[hno]at hl;cases hl),.inl rfl,hd,hG,fun c C hc=>hc,fun k q _ _ hl=>(by rw[hno]at hl;cases hl),fun c C hc=>.inl ⟨C,hc⟩,hT.size,hT.defers,fun t _=>hT.get t,fun k q t _ hl=>(by rw[hno]at hl;cases hl)⟩

end
section

theorem Ut{β:Type}(k:Option β):QW true k=k:=rfl
theorem km(n:Nat):GV (Int.ofNat n)=some n:=rfl

theorem HR.below{w0:World}{p:Jy}{h:Hp}{w w':World}(H:HR w0 p h w)(B:Below w.heap.size w w'):HR w0 p h w':=by
 refine⟨B.os.trans H.os,B.tape.trans H.tape,B.output.trans H.output,Nat.le_trans H.size B.size,fun b hb=>?_,H.dom,fun c m x hx=>Nat.lt_of_lt_of_le (H.lt c m x hx) B.size,H.apart,fun c C hC=>?_⟩
 ·rw[B.block b (Nat.lt_of_lt_of_le hb H.size)];exact H.old b hb
 ·exact(H.cls c C hC).keep H.Ed (fun _ _ _ hx=>hx) (Grow.refl h) (fun _ _ hx=>hx) fun m x hx=>B.block x.b (H.lt c m x hx)
theorem HR.Zy{w0:World}{p:Jy}{h:Hp}{w w':World}(H:HR w0 p h w)(B:Below w.heap.size w w'):Step w0 p w p h w':=
 ⟨fun _ _ _ hx=>hx,H.below B,⟨B.size,fun b hb _=>B.block b hb⟩,fun c m x hx hn=>by rw[hn]at hx;cases hx⟩
noncomputable def C5:List AV→St→Option (AV×St):=fun args st=>List.rec (some (.bool true,st)) (fun _ _ _=>none) args
noncomputable def Env.known(G:Env)(f:FuncId):Env:=⟨G.g,G.b,fun k=>Bool.rec (G.s k) (some C5) (Nat.beq k f),G.i⟩
end
end Go.Proofs.YthjgndgnmkiaiaaGreatDoor
