/-
  Several texts in one: XEvN, XEvU.
-/
import Derived.Below
import Derived.Test.YtiknomepbklibaaGreatDoorQrEv2
import Derived.Test.YtiknomepbklibaaGreatDoorProg
set_option linter.unusedSimpArgs false
set_option linter.unusedVariables false
section
section

namespace Go.Proofs.YtiknomepbklibaaGreatDoor
open Go Go.RowKit
variable {h:Hp} {k:Nat} {v:AV}

abbrev OM:=List (Nat×Oper×Nat)
structure FY(P:Program)(G:Env)(call:YQ)(N:Nat)(ops:Array Oper)(ms:List Nat)(pl:OM)(Tf:Nat→Tr AV)(Sf:Nat→St)(Vf:Nat→AV):Prop where
 mo:Nf ops.toList ms=true
 tm:GS ops.toList ms=true
 pa:IK P ops.toList ms ops.toList.length 0 [] pl
 run: ∀(k:Nat) (q:Nat×Oper×Nat),pl[k]? =some q→UK P G call ops.toList q.2.1 (Tf k) (Sf k)=some (Vf k,Sf (k+1))∧wO N q.2.1.dst (Vf k) (Tf k) (Tf (k+1))∧
  (U5 ops.toList q.2.1 (Tf k)=true→again P G q.2.1 (Tf k) (Vf k) q.2.2 (CI P [Sf 0] pl Sf k).tail=true)
structure x8(G:Env)(pl:OM)(Tf:Nat→Tr AV)(Sf:Nat→St):Prop where
 fresh: ∀k,k≤pl.length→Qj (Sf k)
 ab: ∀k,k<pl.length→Ab (Sf k) (Sf (k+1))
 wf: ∀k,k≤pl.length→eQ (Sf k).h.get
 tw: ∀k,k≤pl.length→ ∀t,WF (Sf k).h.get (Y0 (Tf k) t)
 go: ∀k,k≤pl.length→ ∀g,G.g g=true→ ∃C,(Sf k).h.get g=some C∧0<(exts C).length

section
variable {P:Program} {G:Env} {call:YQ} {N:Nat} {ops:Array Oper} {ms:List Nat} {pl:OM} {Tf:Nat→Tr AV} {Sf:Nat→St} {Vf:Nat→AV}

theorem FY.real(R:FY P G call N ops ms pl Tf Sf Vf)(hcall:Wp P G call)(hf:Qj (Sf 0)){w0:World}{p:JE}{w:World}{a:Act}{ds:List Deferred}(H:HR w0 p (Sf 0).h.get w)(hG:Ct w0 p G)(hT:TR p (Sf 0).h.get (Tf 0) a N ds):
  ∀k,k≤pl.length→Ab (Sf 0) (Sf k)∧(∃p' w' a',Step w0 p w p' (Sf k).h.get w'∧TR p' (Sf k).h.get (Tf k) a' N ds)∧(∀k',k'<k→Ab (Sf k') (Sf (k'+1))):=by
 intro k
 induction k with
 |zero=>intro _;exact⟨Ab.refl _,⟨p,w,a,Step.refl H,hT⟩,fun k' hk=>by omega⟩
 |succ k ih=>
  intro hk;obtain⟨h1,⟨p1,w1,a1,h2,h3⟩,h4⟩:=ih Qe;have hq:pl[k]? =some pl[k]:=List.getElem?_eq_getElem Qe;obtain⟨r1,r2,_⟩:=R.run k _ hq;obtain⟨s1,⟨p2,w2,s2,s3⟩,_⟩:=CC hcall r1 (h1.fresh hf) h2.hr (hG.le h2.le) h3;have hT2:=h3.step h2.hr s2 s1.grow;refine⟨h1.trans s1,?_,fun k' hk'=>?_⟩
  ·rcases r2 with⟨hd,hTT⟩|⟨d,hd,hdN,hTT⟩
   ·exact⟨p2,w2,a1,h2.trans s2,by rw[hTT];exact hT2⟩
   ·exact⟨p2,w2,_,h2.trans s2,by rw[hTT];exact hT2.put s3 hdN⟩
  ·rcases Nat.lt_or_ge k' k with h|h
   ·exact h4 k' h
   ·have:k'=k:=by omega
    subst this;exact s1
theorem FY.aT(R:FY P G call N ops ms pl Tf Sf Vf)(hcall:Wp P G call)(hf:Qj (Sf 0)){w0:World}{p:JE}{w:World}{a:Act}{ds:List Deferred}(H:HR w0 p (Sf 0).h.get w)(hG:Ct w0 p G)(hT:TR p (Sf 0).h.get (Tf 0) a N ds):x8 G pl Tf Sf:=by
 have hr:=R.real hcall hf H hG hT;refine⟨fun k hk=>(hr k hk).1.fresh hf,fun k hk=>(hr pl.length (Nat.le_refl _)).2.2 k hk,fun k hk=>?_,fun k hk t=>?_,fun k hk g hg=>?_⟩
 ·obtain⟨_,⟨p1,w1,a1,h2,h3⟩,_⟩:=hr k hk;exact h2.hr.wf
 ·obtain⟨_,⟨p1,w1,a1,h2,h3⟩,_⟩:=hr k hk;exact(h3.get t).2
 ·obtain⟨_,⟨p1,w1,a1,h2,h3⟩,_⟩:=hr k hk;obtain⟨e,he⟩:=(hG.le h2.le).1 g hg;exact h2.hr.dom g 0 _ he

theorem FY.pos(R:FY P G call N ops ms pl Tf Sf Vf){q:Nat×Oper×Nat}(hq:pl[k]? =some q):
  ops[q.1]? =some q.2.1∧(∀k' q',k'<k→pl[k']? =some q'→q'.1≠q.1)∧(∀x,Nat.testBit (FV ms q.1) x=true→ ∃(k':Nat) (q':Nat×Oper×Nat),k'<k∧pl[k']? =some q'∧q'.1=x)∧
  (QI P q.2.1.op=3→ ∀k' q',k'<k→pl[k']? =some q'→Nat.testBit (FV ms q.1) q'.1=true)∧(QI P q.2.1.op=1→q.2.2=EY (FV ms q.1) (Wl P [] pl k)):=by
 obtain⟨h1,_,h3,h4,h5,h6⟩:=jc pl 0 [] R.pa k q hq;refine⟨by rw[←Array.getElem?_toList];exact h1,h3,fun x hx=>?_,fun hk k' q' h h'=>h5 hk _ (.inr ⟨k',q',h,h',rfl⟩),h6⟩;rcases h4 x hx with h|h
 ·simp at h
 ·exact h
theorem FY.inj(R:FY P G call N ops ms pl Tf Sf Vf){k':Nat}{q q':Nat×Oper×Nat}(hq:pl[k]? =some q)(hq':pl[k']? =some q')(h:q.1=q'.1):k=k':=by
 rcases Nat.lt_trichotomy k k' with hlt|he|hlt
 ·exact absurd h ((R.pos hq').2.1 k q hlt hq)
 ·exact he
 ·exact absurd h.symm ((R.pos hq).2.1 k' q' hlt hq')
theorem FY.eK(R:FY P G call N ops ms pl Tf Sf Vf){k':Nat}{q q':Nat×Oper×Nat}(hq:pl[k]? =some q)(hq':pl[k']? =some q'){t:Nat}(h:q.2.1.dst=some t)(h':q'.2.1.dst=some t):k=k':=by
 by_cases he:q.1=q'.1
 ·exact R.inj hq hq' he
 ·have e1:ops.toList[q.1]? =some q.2.1:=by rw[Array.getElem?_toList];exact(R.pos hq).1
  have e2:ops.toList[q'.1]? =some q'.2.1:=by rw[Array.getElem?_toList];exact(R.pos hq').1
  exact absurd h' (IU R.tm e1 e2 h he).1
theorem FY.xD(R:FY P G call N ops ms pl Tf Sf Vf): ∀k,k≤pl.length→ ∀t,((∀k' q',k'<k→pl[k']? =some q'→q'.2.1.dst≠some t)→Y0 (Tf k) t=Y0 (Tf 0) t)∧
  ∀k' q',k'<k→pl[k']? =some q'→q'.2.1.dst=some t→Y0 (Tf k) t=Vf k':=by
 intro k
 induction k with
 |zero=>intro _ t;exact⟨fun _=>rfl,fun k' _ h=>by omega⟩
 |succ k ih=>
  intro hk t;obtain⟨i1,i2⟩:=ih Qe t;have hq:pl[k]? =some pl[k]:=List.getElem?_eq_getElem Qe;obtain⟨_,r2,_⟩:=R.run k _ hq;refine⟨fun h=>?_,fun k' q' hk' hq' hd=>?_⟩
  ·have:=i1 fun k' q' hk' hq'=>h k' q' Qe hq';rcases r2 with⟨_,hTT⟩|⟨d,hdd,_,hTT⟩
   ·rw[hTT];exact this
   ·rw[hTT,ZX,if_neg]
    ·exact this
    ·rintro rfl
     exact h k _ (Nat.lt_succ_self k) hq hdd
  ·rcases Nat.lt_or_ge k' k with hlt|hge
   ·have:=i2 k' q' hlt hq' hd;rcases r2 with⟨_,hTT⟩|⟨d,hdd,_,hTT⟩
    ·rw[hTT];exact this
    ·rw[hTT,ZX,if_neg]
     ·exact this
     ·rintro rfl
      have:=R.eK hq hq' hdd hd;omega
   ·have:k'=k:=by omega
    subst this;rw[hq]at hq'
    injection hq' with hq'
    rw[←hq']at hd;rcases r2 with⟨h0,_⟩|⟨d,hdd,_,hTT⟩
    ·rw[h0]at hd;cases hd
    ·rw[hdd]at hd
     injection hd with hd
     rw[hTT,ZX,if_pos hd.symm]

theorem FY.idle(R:FY P G call N ops ms pl Tf Sf Vf){q:Nat×Oper×Nat}(hq:pl[k]? =some q)(hw:U5 ops.toList q.2.1 (Tf k)=false):Vf k=.tup []∧Sf (k+1)=Sf k:=by
 obtain⟨h,_⟩:=R.run k q hq;unfold UK at h;rw[hw,Qx]at h
 injection h with h
 injection h with h1 h2
 exact⟨h1.symm,h2.symm⟩
theorem FY.op(R:FY P G call N ops ms pl Tf Sf Vf){q:Nat×Oper×Nat}(hq:pl[k]? =some q)(hw:U5 ops.toList q.2.1 (Tf k)=true):Rg P (only q.2.1 (QJ G (Tf k))) call q.2.1 (Sf k)=some (Vf k,Sf (k+1)):=by
 obtain⟨h,_⟩:=R.run k q hq;unfold UK at h;rw[hw,Q7]at h;rw[Mh fun x hx=>zH hx];exact h
theorem FY.kind(R:FY P G call N ops ms pl Tf Sf Vf){q:Nat×Oper×Nat}(hq:pl[k]? =some q)(hw:U5 ops.toList q.2.1 (Tf k)=true)(h3:QI P q.2.1.op≠3):
  Fx P (only q.2.1 (QJ G (Tf k))) q.2.1 (Sf k) (Vf k) (Sf (k+1)) (QI P q.2.1.op):=by
 have h:=R.op hq hw;rw[zG h3]at h;exact Pt _ h
theorem FY.one(R:FY P G call N ops ms pl Tf Sf Vf){q:Nat×Oper×Nat}(hq:pl[k]? =some q)(h3:QI P q.2.1.op≠3):
  Sf (k+1)=Sf k∨(QI P q.2.1.op=2∧U5 ops.toList q.2.1 (Tf k)=true∧ ∃C,Sf (k+1)=⟨(Sf k).n+1,(Sf k).h.set (Sf k).n C⟩):=by
 cases hw:U5 ops.toList q.2.1 (Tf k)with
 |false=>exact .inl (R.idle hq hw).2
 |true=>
  have hk:=R.kind hq hw h3;generalize hkk:QI P q.2.1.op=kk at hk
  cases hk with
  |pure h1 _=>exact .inl h1
  |load _ _ _ h1 _ _ _=>exact .inl h1
  |text _ _ _ _ _ h1 _ _ _ _=>exact .inl h1
  |make C h1 _=>exact .inr ⟨rfl,rfl,C,h1⟩
  |act _ _=>exact absurd hkk h3
theorem FY.SX (R : FY P G call N ops ms pl Tf Sf Vf) (W : x8 G pl Tf Sf) {k1 : Nat} : ∀ k2, k1 ≤ k2 → k2 ≤ pl.length → (∀ k q, k1 ≤ k → k < k2 → pl[k]? = some q → QI P q.2.1.op ≠ 3) → ∀ c C, (Sf k1).h.get c = some C → (Sf k2).h.get c = some C := by
  intro k2
  induction k2 with
  | zero => intro h _ _ c C hc; have : k1 = 0 := by omega
            subst this; exact hc
  | succ k ih =>
    intro h hk hno c C hc;rcases Nat.lt_or_ge k k1 with hlt | hge
    · have : k1 = k + 1 := by omega
      subst this; exact hc
    · have hi := ih hge Qe (fun k' q h1 h2 => hno k' q h1 Qe) c C hc;have hq : pl[k]? = some pl[k] := List.getElem?_eq_getElem Qe;rcases R.one hq (hno k _ hge (Nat.lt_succ_self k) hq) with h | ⟨_, _, C', h⟩
      · rw [h]; exact hi
      · rw [h];show ((Sf k).h.set (Sf k).n C').get c = _;rw [JF, YU _ _ (by rintro rfl; rw [W.fresh k Qe _ (Nat.le_refl _)] at hi; cases hi)];exact hi
theorem x8.Na (W : x8 G pl Tf Sf) {k1 : Nat} : ∀ k2, k1 ≤ k2 → k2 ≤ pl.length → (Sf k1).n ≤ (Sf k2).n := by
  intro k2
  induction k2 with
  | zero => intro h _; have : k1 = 0 := by omega
            subst this; exact Nat.le_refl _
  | succ k ih =>
    intro h hk;rcases Nat.lt_or_ge k k1 with hlt | hge
    · have : k1 = k + 1 := by omega
      subst this; exact Nat.le_refl _
    · exact Nat.le_trans (ih hge Qe) (W.ab k Qe).n
theorem x8.aR(W:x8 G pl Tf Sf)(hk:k≤pl.length){x:Operand}(h:QJ G (Tf k) x=some v):WF (Sf k).h.get v:=by
 unfold QJ at h
 split at h
 ·injection h with h;subst h;exact W.tw k hk _
 ·exact(WZ (fun _ _=>none) _ h).2
 ·obtain⟨h1,h2⟩:=Qy h
  injection h2 with h2
  subst h2;exact W.go k hk _ h1
 ·injection h with h;subst h;exact⟨trivial,trivial⟩

structure VI(P:Program)(G:Env)(N:Nat)(ops:Array Oper)(pl:OM)(Tf:Nat→Tr AV)(Sf:Nat→St)(Vf:Nat→AV)(w0:World)(pS:JE)(wS:World)(ds:List Deferred)(k0:Nat)(listed:Array Bool)(a:Act)(w:World)(p:JE)(g:Hp):Prop where
 size:listed.size=ops.size
 closed: ∀j o,ops.toList[j]? =some o→listed.getD j false=true→ ∀e∈US o,listed.getD e false=true
 k0le:k0≤pl.length
 pre: ∀(k:Nat) (q:Nat×Oper×Nat),k<k0→pl[k]? =some q→listed.getD q.1 false=true
 noact: ∀(k:Nat) (q:Nat×Oper×Nat),k0≤k→pl[k]? =some q→listed.getD q.1 false=true→QI P q.2.1.op≠3
 last:k0=0∨ ∃q:Nat×Oper×Nat,pl[k0-1]? =some q∧QI P q.2.1.op=3∧0<k0
 step:Step w0 pS wS p g w
 gok:Ct w0 p G
 g1: ∀c C,(Sf k0).h.get c=some C→g c=some C
 g2: ∀(k:Nat) (q:Nat×Oper×Nat),k0≤k→pl[k]? =some q→listed.getD q.1 false=true→QI P q.2.1.op=2→U5 ops.toList q.2.1 (Tf k)=true→g (Sf k).n=(Sf (k+1)).h.get (Sf k).n
 g3: ∀c C,g c=some C→(∃C',(Sf k0).h.get c=some C')∨ ∃(k:Nat) (q:Nat×Oper×Nat),k0≤k∧pl[k]? =some q∧listed.getD q.1 false=true∧QI P q.2.1.op=2∧U5 ops.toList q.2.1 (Tf k)=true∧c=(Sf k).n
 tsize:a.tmps.size=N
 defers:a.defers=ds
 t1: ∀t,(∀(k:Nat) (q:Nat×Oper×Nat),pl[k]? =some q→listed.getD q.1 false=true→q.2.1.dst≠some t)→a.tmps.getD t undef=Qi p (Y0 (Tf 0) t)∧WF g (Y0 (Tf 0) t)
 t2: ∀(k:Nat) (q:Nat×Oper×Nat) (t:Nat),pl[k]? =some q→listed.getD q.1 false=true→q.2.1.dst=some t→a.tmps.getD t undef=Qi p (Vf k)∧WF g (Vf k)

theorem VO{listed:Array Bool}{j:Nat}(h:listed.getD j true=false):j<listed.size∧listed.getD j false=false:=by
 have hj:j<listed.size:=by
  rcases Nat.lt_or_ge j listed.size with h'|h'
  ·exact h'
  ·simp[Array.getD_eq_getD_getElem?,Array.getElem?_eq_none h']at h
 refine⟨hj,?_⟩
 simpa [Array.getD_eq_getD_getElem?,hj]using h
theorem HD{listed:Array Bool}{j:Nat}(h:listed.getD j true=false)(i:Nat):(listed.setIfInBounds j true).getD i false=true↔listed.getD i false=true∨i=j:=by
 obtain⟨hj,_⟩:=VO h
 by_cases he:j=i
 ·subst he;simp[Array.getD_eq_getD_getElem?,hj]
 ·rw[Array.getD_eq_getD_getElem?,Array.getD_eq_getD_getElem?,Array.getElem?_setIfInBounds_ne he];constructor
  ·exact .inl
  ·rintro(h|h)
   ·exact h
   ·exact absurd h.symm he

variable {w0:World} {pS:JE} {wS:World} {ds:List Deferred} {k0:Nat} {listed:Array Bool} {a:Act} {w:World} {p:JE} {g:Hp}

theorem VI.put(D:VI P G N ops pl Tf Sf Vf w0 pS wS ds k0 listed a w p g)(R:FY P G call N ops ms pl Tf Sf Vf){k:Nat}{q:Nat×Oper×Nat}(hq:pl[k]? =some q)(hun:listed.getD q.1 true=false)
  {p':JE} {g':Hp} (hle:JE.le p p') (hg:Grow g g') (hv:WF g' (Vf k)):(a.put q.2.1.dst (Qi p' (Vf k))).tmps.size=N∧(a.put q.2.1.dst (Qi p' (Vf k))).defers=ds∧
  (∀t,(∀(k':Nat) (q':Nat×Oper×Nat),pl[k']? =some q'→(listed.setIfInBounds q.1 true).getD q'.1 false=true→q'.2.1.dst≠some t)→(a.put q.2.1.dst (Qi p' (Vf k))).tmps.getD t undef=Qi p' (Y0 (Tf 0) t)∧WF g' (Y0 (Tf 0) t))∧
  ∀(k':Nat) (q':Nat×Oper×Nat) (t:Nat),pl[k']? =some q'→(listed.setIfInBounds q.1 true).getD q'.1 false=true→q'.2.1.dst=some t→(a.put q.2.1.dst (Qi p' (Vf k))).tmps.getD t undef=Qi p' (Vf k')∧WF g' (Vf k'):=by
 have hcov:=D.step.hr.AO
 have other: ∀t,q.2.1.dst≠some t→(a.put q.2.1.dst (Qi p' (Vf k))).tmps.getD t undef=a.tmps.getD t undef:=by
  intro t ht
  cases hd:q.2.1.dst with
  |none=>rfl
  |some d=>
   have:d≠t:=fun e=>ht (by rw[hd,e]);simp[Act.put,Array.getD_eq_getD_getElem?,Array.getElem?_setIfInBounds_ne this]
 refine⟨?_,?_,fun t h=>?_,fun k' q' t hq' hl hd=>?_⟩
 ·cases q.2.1.dst<;>simp[Act.put,D.tsize]
 ·cases q.2.1.dst<;>exact D.defers
 ·obtain⟨h1,h2⟩:=D.t1 t fun k' q' hq' hl=>h k' q' hq' ((HD hun _).2 (.inl hl));rw[other t (h k q hq ((HD hun _).2 (.inr rfl)))];exact⟨by rw[Yf hcov hle _ h2];exact h1,WF.grow hg _ h2⟩
 ·by_cases hk:k'=k
  ·subst hk;rw[hq]at hq'
   injection hq' with hq'
   subst hq';refine⟨?_,hv⟩;rcases(R.run k' q hq).2.1 with⟨h0,_⟩|⟨d,hdd,hdN,_⟩
   ·rw[h0]at hd;cases hd
   ·rw[hdd]at hd
    injection hd with hd
    subst hd;rw[hdd]
    have:d<a.tmps.size:=by rw[D.tsize];exact hdN
    simp[Act.put,Array.getD_eq_getD_getElem?,this]
  ·have hne:q'.1≠q.1:=fun e=>hk (R.inj hq' hq e);have hl':listed.getD q'.1 false=true:=((HD hun _).1 hl).resolve_right hne;obtain⟨h1,h2⟩:=D.t2 k' q' t hq' hl' hd;rw[other t fun e=>hk (R.eK hq' hq hd e)];exact⟨by rw[Yf hcov hle _ h2];exact h1,WF.grow hg _ h2⟩

theorem VI.ahead(D:VI P G N ops pl Tf Sf Vf w0 pS wS ds k0 listed a w p g)(R:FY P G call N ops ms pl Tf Sf Vf){q:Nat×Oper×Nat}(hq:pl[k]? =some q)(hed: ∀e∈US q.2.1,listed.getD e false=true):
  ∀i,Nat.testBit (FV ms q.1) i=true→listed.getD i false=true:=
 yw R.mo (lst:=fun i=>listed.getD i false=true) D.closed q.1 q.2.1 (by rw[Array.getElem?_toList];exact(R.pos hq).1) hed
theorem VI.behind(D:VI P G N ops pl Tf Sf Vf w0 pS wS ds k0 listed a w p g)(R:FY P G call N ops ms pl Tf Sf Vf){q:Nat×Oper×Nat}(hq:pl[k]? =some q)(hl:listed.getD q.1 false=true):
  ∀i,Nat.testBit (FV ms q.1) i=true→listed.getD i false=true:=
 D.ahead R hq fun e he=>D.closed q.1 q.2.1 (by rw[Array.getElem?_toList];exact(R.pos hq).1) hl e he
theorem VI.looks(D:VI P G N ops pl Tf Sf Vf w0 pS wS ds k0 listed a w p g)(R:FY P G call N ops ms pl Tf Sf Vf){q:Nat×Oper×Nat}(hq:pl[k]? =some q)(hun:listed.getD q.1 true=false)
  (hed: ∀e∈US q.2.1,listed.getD e false=true) {t:Nat} (ht:t∈EW ops.toList q.2.1):a.tmps.getD t undef=Qi p (Y0 (Tf k) t)∧WF g (Y0 (Tf k) t):=by
 have hkl:k<pl.length:=(List.getElem?_eq_some_iff.1 hq).1;have hnl:=(VO hun).2;have hah:=D.ahead R hq hed;obtain⟨tc1,tc2⟩:=R.xD k Qe t
 have pair: ∀k' q',pl[k']? =some q'→q'.2.1.dst=some t→k'≠k→Nat.testBit (FV ms q.1) q'.1=true∨Nat.testBit (FV ms q'.1) q.1=true:=by
  intro k' q' hq' hd hk
  have e1:ops.toList[q'.1]? =some q'.2.1:=by rw[Array.getElem?_toList];exact(R.pos hq').1
  have e2:ops.toList[q.1]? =some q.2.1:=by rw[Array.getElem?_toList];exact(R.pos hq).1
  exact(IU R.tm e1 e2 hd fun e=>hk (R.inj hq' hq e)).2 ht
 by_cases hex: ∃(k':Nat) (q':Nat×Oper×Nat),pl[k']? =some q'∧listed.getD q'.1 false=true∧q'.2.1.dst=some t
 ·obtain⟨k',q',hq',hl,hd⟩:=hex
  have hkk:k'≠k:=by
   rintro rfl
   rw[hq]at hq'
   injection hq' with hq'
   subst hq';rw[hnl]at hl;cases hl
  rcases pair k' q' hq' hd hkk with h|h
  ·obtain⟨k2,q2,h1,h2,h3⟩:=(R.pos hq).2.2.1 _ h;have:=R.inj h2 hq' h3;subst this;rw[tc2 k2 q' h1 hq' hd];exact D.t2 k2 q' t hq' hl hd
  ·have:=D.behind R hq' hl _ h;rw[hnl]at this;cases this
 ·have hno: ∀(k':Nat) (q':Nat×Oper×Nat),pl[k']? =some q'→listed.getD q'.1 false=true→q'.2.1.dst≠some t:=fun k' q' h1 h2 h3=>hex ⟨k',q',h1,h2,h3⟩;rw[tc1 fun k' q' hk' hq' hd=>?_]
  ·exact D.t1 t hno
  ·rcases pair k' q' hq' hd Qe with h|h
   ·exact hno k' q' hq' (hah _ h) hd
   ·obtain⟨k2,q2,h1,h2,h3⟩:=(R.pos hq').2.2.1 _ h;have:=R.inj h2 hq h3;omega
theorem VI.fit(D:VI P G N ops pl Tf Sf Vf w0 pS wS ds k0 listed a w p g)(R:FY P G call N ops ms pl Tf Sf Vf){q:Nat×Oper×Nat}(hq:pl[k]? =some q)(hun:listed.getD q.1 true=false)
  (hed: ∀e∈US q.2.1,listed.getD e false=true):IJ (only q.2.1 (QJ G (Tf k))) a.eval p g:=by
 intro x v hx;replace hx:=Is hx;obtain⟨hm,hx⟩:=hx;unfold QJ at hx
 split at hx
 ·injection hx with hx
  subst hx;exact D.looks R hq hun hed (Mt hm)
 ·obtain⟨h1,h2⟩:=WZ p g hx;exact⟨h1.symm,h2⟩
 ·obtain⟨h1,h2⟩:=Qy hx
  injection h2 with h2
  subst h2;rename_i gg;obtain⟨e,he⟩:=D.gok.1 gg h1;obtain⟨C,hC,hmm⟩:=D.step.hr.dom gg 0 _ he;refine⟨?_,C,hC,hmm⟩;simp only[Qi,he,Act.eval,Nat.add_zero]
 ·injection hx with hx
  subst hx;exact⟨rfl,trivial,trivial⟩

theorem VI.upto(D:VI P G N ops pl Tf Sf Vf w0 pS wS ds k0 listed a w p g)(R:FY P G call N ops ms pl Tf Sf Vf)(W:x8 G pl Tf Sf): ∀k,k0≤k→k≤pl.length→(∀(k':Nat) (q':Nat×Oper×Nat),k'<k→pl[k']? =some q'→listed.getD q'.1 false=true)→
  (∀c C,(Sf k).h.get c=some C→g c=some C)∧
  (∀c C,g c=some C→(∃C',(Sf k).h.get c=some C')∨ ∃(k':Nat) (q':Nat×Oper×Nat),k≤k'∧pl[k']? =some q'∧listed.getD q'.1 false=true∧QI P q'.2.1.op=2∧U5 ops.toList q'.2.1 (Tf k')=true∧c=(Sf k').n):=by
 intro k
 induction k with
 |zero=>
  intro h _ _
  have:k0=0:=by omega
  subst this;exact⟨D.g1,D.g3⟩
 |succ k ih=>
  intro h hk hall;rcases Nat.lt_or_ge k k0 with hlt|hge
  ·have:k0=k+1:=by omega
   subst this;exact⟨D.g1,D.g3⟩
  ·obtain⟨i1,i2⟩:=ih hge Qe fun k' q' h1 h2=>hall k' q' Qe h2;have hq:pl[k]? =some pl[k]:=List.getElem?_eq_getElem Qe;have hl:=hall k _ (Nat.lt_succ_self k) hq;have h3:=D.noact k _ hge hq hl;rcases R.one hq h3 with he|⟨h2,hw,C',he⟩
   ·rw[he];refine⟨i1,fun c C hc=>?_⟩;rcases i2 c C hc with h|⟨k',q',h1,h2,h3,h4,h5,h6⟩
    ·exact .inl h
    ·rcases Nat.lt_or_ge k k' with hlt|hge'
     ·exact .inr ⟨k',q',hlt,h2,h3,h4,h5,h6⟩
     ·have:k'=k:=by omega
      subst this;rw[hq]at h2
      injection h2 with h2
      subst h2;left;have:=D.g2 k' _ hge hq hl h4 h5;rw[h6]at hc;rw[hc,he]at this;exact⟨C,by rw[h6];exact this.symm⟩
   ·have hgn:=D.g2 k _ hge hq hl h2 hw;refine⟨fun c C hc=>?_,fun c C hc=>?_⟩
    ·by_cases hcn:c=(Sf k).n
     ·subst hcn;rw[hgn];exact hc
     ·rw[he]at hc;have hc:((Sf k).h.set (Sf k).n C').get c=some C:=hc;rw[JF,YU _ _ hcn]at hc;exact i1 c C hc
    ·rcases i2 c C hc with⟨C0,h⟩|⟨k',q',h1,h2',h3',h4,h5,h6⟩
     ·left;obtain⟨C1,h1,_⟩:=(W.ab k Qe).grow c C0 h;exact⟨C1,h1⟩
     ·rcases Nat.lt_or_ge k k' with hlt|hge'
      ·exact .inr ⟨k',q',hlt,h2',h3',h4,h5,h6⟩
      ·have:k'=k:=by omega
       subst this;left;rw[h6]at hc ⊢;rw[hgn]at hc;exact⟨C,hc⟩

def Xg(P:Program)(pl:OM)(k0 k:Nat):Nat:=((List.range k).filter fun i=>decide (k0≤i)&&(match pl[i]? with|some q=>decide (QI P q.2.1.op=3)|none=>false)).length
theorem Ko{P:Program}(pl:OM)(k0:Nat):Xg P pl k0 k0=0:=by
 unfold Xg;rw[List.length_eq_zero_iff,List.filter_eq_nil_iff];intro i hi;have:=List.mem_range.1 hi;simp;omega
theorem Py{P:Program}(pl:OM){k0:Nat}{q:Nat×Oper×Nat}(h:k0≤k)(hq:pl[k]? =some q):Xg P pl k0 (k+1)=Xg P pl k0 k+if QI P q.2.1.op=3 then 1 else 0:=by
 unfold Xg;rw[List.range_succ,List.filter_append,List.length_append]
 congr 1
 simp only[List.filter_cons,List.filter_nil,hq,decide_eq_true h,Bool.true_and]
 by_cases hk:QI P q.2.1.op=3
 ·simp[hk]
 ·simp[hk]
theorem OY{P:Program}: ∀(pl:OM) (sn:List St) (Sf:Nat→St) (k:Nat) (q:Nat×Oper×Nat),pl[k]? =some q→CI P sn pl Sf (k+1)=if QI P q.2.1.op=3 then Sf (k+1)::CI P sn pl Sf k else CI P sn pl Sf k:=by
 intro pl
 induction pl with
 |nil=>intro sn Sf k q h;simp at h
 |cons a pl ih=>
  intro sn Sf k q h
  cases k with
  |zero=>
   simp at h;subst h;simp only[CI]
  |succ k=>
   have:=ih (if QI P a.2.1.op=3 then Sf 1::sn else sn) (fun j=>Sf (j+1)) k q (by simpa using h);exact this
theorem Px{P:Program}: ∀(pl:OM) (acts:List Nat) (k:Nat) (q:Nat×Oper×Nat),pl[k]? =some q→Wl P acts pl (k+1)=if QI P q.2.1.op=3 then q.1::Wl P acts pl k else Wl P acts pl k:=by
 intro pl
 induction pl with
 |nil=>intro acts k q h;simp at h
 |cons a pl ih=>
  intro acts k q h
  cases k with
  |zero=>
   simp at h;subst h;simp only[Wl]
  |succ k=>exact ih _ k q (by simpa using h)
theorem VI.snap(D:VI P G N ops pl Tf Sf Vf w0 pS wS ds k0 listed a w p g)(m:Nat): ∀k,k0≤k→k≤pl.length→(∀(k':Nat) (q':Nat×Oper×Nat),k0≤k'→k'<k→pl[k']? =some q'→QI P q'.2.1.op=3→Nat.testBit m q'.1=false)→
  (CI P [Sf 0] pl Sf k)[Xg P pl k0 k]? =some (Sf k0)∧Xg P pl k0 k≤EY m (Wl P [] pl k):=by
 intro k
 induction k with
 |zero=>
  intro h _ _
  have:k0=0:=by omega
  subst this;rw[Ko];refine⟨?_,Nat.zero_le _⟩
  cases pl<;>rfl
 |succ k ih=>
  intro h hk hall;rcases Nat.lt_or_ge k k0 with hlt|hge
  ·have:k0=k+1:=by omega
   subst this;rw[Ko];refine⟨?_,Nat.zero_le _⟩;rcases D.last with h0|⟨q,hq,h3,_⟩
   ·omega
   ·rw[Nat.add_sub_cancel]at hq;rw[OY pl _ Sf k q hq,if_pos h3];rfl
  ·have hq:pl[k]? =some pl[k]:=List.getElem?_eq_getElem Qe;obtain⟨i1,i2⟩:=ih hge Qe fun k' q' h1 h2=>hall k' q' h1 Qe;rw[Py pl hge hq,OY pl _ Sf k _ hq,Px pl _ k _ hq]
   by_cases h3:QI P pl[k].2.1.op=3
   ·rw[if_pos h3,if_pos h3,if_pos h3];refine⟨by simpa using i1,?_⟩;show _≤Qo (Nat.testBit m pl[k].1) (EY m (Wl P [] pl k)) (EY m (Wl P [] pl k)+1);rw[hall k _ hge (Nat.lt_succ_self k) hq h3,Qx];omega
   ·rw[if_neg h3,if_neg h3,if_neg h3];exact⟨i1,i2⟩

theorem Nk{t:TypeId}{c m off:Nat}{h':Hp}(he:h c=h' c):Jq P t (.ptr c m off) h=Jq P t (.ptr c m off) h':=by
 simp only[Jq,rowOf,he]
theorem Gp{t:TypeId}{x:AV}(hl:Jq P t x h=some v): ∃c m off C,x=.ptr c m off∧h c=some C:=by
 unfold Jq at hl
 split at hl
 ·rename_i c m off;obtain⟨r,hr,_⟩:=Qm hl;obtain⟨C,hC,_⟩:=Qm hr;exact⟨c,m,off,C,rfl,hC⟩
 ·cases hl

theorem Ph{c m off n z:Nat}{h':Hp}(he:h c=h' c):Wi (.sl c m off n z) h=Wi (.sl c m off n z) h':=by
 simp only[Wi,rowOf,he]
theorem RK{x:AV}(hl:Wi x h=some v):x=.nils∨ ∃c m off n z C,x=.sl c m off n z∧h c=some C:=by
 unfold Wi at hl
 split at hl
 ·exact .inl rfl
 ·rename_i c m off n z;obtain⟨r,hr,_⟩:=Qm hl;obtain⟨C,hC,_⟩:=Qm hr;exact .inr ⟨c,m,off,n,z,C,rfl,hC⟩
 ·cases hl

theorem VI.next(D:VI P G N ops pl Tf Sf Vf w0 pS wS ds k0 listed a w p g)(R:FY P G call N ops ms pl Tf Sf Vf)(W:x8 G pl Tf Sf)(hcall:Wp P G call){q:Nat×Oper×Nat}(hq:pl[k]? =some q)(hun:listed.getD q.1 true=false)
  (hed: ∀e∈US q.2.1,listed.getD e false=true) {K:Act→World→Prop} {Q:Exit→Act→World→Prop} {r:Option Nat}
  (hK: ∀k0' a' w' p' g',VI P G N ops pl Tf Sf Vf w0 pS wS ds k0' (listed.setIfInBounds q.1 true) a' w' p' g'→K a' w'):wpOpIn (FR r) 0 P ops Q q.1 K a w:=by
 have hkl:k<pl.length:=(List.getElem?_eq_some_iff.1 hq).1;obtain⟨hjs,hnl⟩:=VO hun;have hops:=(R.pos hq).1
 have hk0:k0≤k:=Nat.le_of_not_lt fun h=>by rw[D.pre k q h hq]at hnl;cases hnl
 have hah:=D.ahead R hq hed;have hfit:=D.fit R hq hun hed;have hset:=HD hun
 have hcl': ∀j o,ops.toList[j]? =some o→(listed.setIfInBounds q.1 true).getD j false=true→ ∀e∈US o,(listed.setIfInBounds q.1 true).getD e false=true:=by
  intro j o hj hl e he;rcases(hset j).1 hl with h|h
  ·exact(hset e).2 (.inl (D.closed j o hj h e he))
  ·subst h;rw[Array.getElem?_toList,hops]at hj
   injection hj with hj
   subst hj;exact(hset e).2 (.inl (hed e he))
 have hwant:Region.wanted q.2.1 (yielded ops a.tmps)=U5 ops.toList q.2.1 (Tf k):=
  Cy (p:=p) D.tsize fun gg t hg ht=>(D.looks R hq hun hed (Dx hg ht)).1

 have stay: ∀(w':World) (p':JE) (g':Hp),QI P q.2.1.op≠3→Step w0 p w p' g' w'→Grow g g'→WF g' (Vf k)→(∀c C,(Sf k0).h.get c=some C→g' c=some C)→
   (∀(k':Nat) (q':Nat×Oper×Nat),k0≤k'→pl[k']? =some q'→listed.getD q'.1 false=true→QI P q'.2.1.op=2→U5 ops.toList q'.2.1 (Tf k')=true→g' (Sf k').n=(Sf (k'+1)).h.get (Sf k').n)→
   (QI P q.2.1.op=2→U5 ops.toList q.2.1 (Tf k)=true→g' (Sf k).n=(Sf (k+1)).h.get (Sf k).n)→
   (∀c C,g' c=some C→(∃C',g c=some C')∨(QI P q.2.1.op=2∧U5 ops.toList q.2.1 (Tf k)=true∧c=(Sf k).n))→K (a.put q.2.1.dst (Qi p' (Vf k))) w':=by
  intro w' p' g' h3 hs hg hv hg1 hg2 hg2' hg3;obtain⟨e1,e2,e3,e4⟩:=D.put R hq hun hs.le hg hv;refine hK k0 _ w' p' g' ⟨by simpa using D.size,hcl',D.k0le,fun k' q' h h'=>(hset _).2 (.inl (D.pre k' q' h h')),fun k' q' h h' hl=>?_,D.last,D.step.trans hs,D.gok.le hs.le,hg1,fun k' q' h h' hl h2 hw=>?_,fun c C hc=>?_,e1,e2,e3,e4⟩
  ·rcases(hset _).1 hl with hl|hl
   ·exact D.noact k' q' h h' hl
   ·have:=R.inj h' hq hl;subst this;rw[hq]at h'
    injection h' with h'
    subst h';exact h3
  ·rcases(hset _).1 hl with hl|hl
   ·exact hg2 k' q' h h' hl h2 hw
   ·have:=R.inj h' hq hl;subst this;rw[hq]at h'
    injection h' with h'
    subst h';exact hg2' h2 hw
  ·rcases hg3 c C hc with⟨C',h⟩|⟨h2,hw,h⟩
   ·rcases D.g3 c C' h with h|⟨k',q',h1,h2,h3,h4,h5,h6⟩
    ·exact .inl h
    ·exact .inr ⟨k',q',h1,h2,(hset _).2 (.inl h3),h4,h5,h6⟩
   ·exact .inr ⟨k,q,hk0,hq,(hset _).2 (.inr rfl),h2,hw,h⟩

 have goes: ∀(w':World) (p':JE) (g':Hp),QI P q.2.1.op=3→Step w0 p w p' g' w'→Grow g g'→WF g' (Vf k)→(∀c C,(Sf (k+1)).h.get c=some C→g' c=some C)→
   (∀c,(Sf (k+1)).h.get c=none→g' c=g c)→K (a.put q.2.1.dst (Qi p' (Vf k))) w':=by
  intro w' p' g' h3 hs hg hv hg1 hg2;have hall: ∀(k':Nat) (q':Nat×Oper×Nat),k'<k→pl[k']? =some q'→listed.getD q'.1 false=true:=fun k' q' h h'=>hah _ ((R.pos hq).2.2.2.1 h3 k' q' h h');obtain⟨b1,b2⟩:=D.upto R W k hk0 Qe hall;obtain⟨e1,e2,e3,e4⟩:=D.put R hq hun hs.le hg hv
  have J8: ∀k' q',k+1≤k'→pl[k']? =some q'→(listed.setIfInBounds q.1 true).getD q'.1 false=true→listed.getD q'.1 false=true:=fun k' q' h h' hl=>by
   rcases(hset _).1 hl with hl|hl
   ·exact hl
   ·have:=R.inj h' hq hl;omega
  refine hK (k+1) _ w' p' g' ⟨by simpa using D.size,hcl',by omega,fun k' q' h h'=>?_,fun k' q' h h' hl=>D.noact k' q' Qe h' (J8 k' q' h h' hl),.inr ⟨q,by simpa using hq,h3,by omega⟩,D.step.trans hs,D.gok.le hs.le,hg1,fun k' q' h h' hl h2 hw=>?_,fun c C hc=>?_,e1,e2,e3,e4⟩
  ·rcases Nat.lt_or_ge k' k with hlt|hge
   ·exact(hset _).2 (.inl (hall k' q' hlt h'))
   ·have:k'=k:=by omega
    subst this;rw[hq]at h'
    injection h' with h'
    subst h';exact(hset _).2 (.inr rfl)
  ·have hn:(Sf (k+1)).h.get (Sf k').n=none:=W.fresh (k+1) Qe _ (W.Na k' h (by have:=(List.getElem?_eq_some_iff.1 h').1;omega));rw[hg2 _ hn];exact D.g2 k' q' Qe h' (J8 k' q' h h' hl) h2 hw
  ·cases hc1:(Sf (k+1)).h.get c with
   |some C1=>exact .inl ⟨C1,rfl⟩
   |none=>
    rw[hg2 c hc1]at hc;rcases b2 c C hc with⟨C0,h⟩|⟨k',q',h1,h2,h3',h4,h5,h6⟩
    ·obtain⟨C2,h2,_⟩:=(W.ab k hkl).grow c C0 h;rw[hc1]at h2;cases h2
    ·have hne:k'≠k:=by
      rintro rfl
      rw[hq]at h2
      injection h2 with h2
      subst h2;rw[hnl]at h3';cases h3'
     exact .inr ⟨k',q',by omega,h2,(hset _).2 (.inl h3'),h4,h5,h6⟩
 unfold wpOpIn;rw[hops];simp only[hwant]
 cases hw:U5 ops.toList q.2.1 (Tf k)with
 |false=>
  simp only[Bool.false_eq_true,if_false];refine⟨fun _ _=>trivial,?_⟩;obtain⟨i1,i2⟩:=R.idle hq hw
  have hund:undef=Qi p (Vf k):=by rw[i1];rfl
  rw[hund]
  by_cases h3:QI P q.2.1.op=3
  ·have hall: ∀(k':Nat) (q':Nat×Oper×Nat),k'<k→pl[k']? =some q'→listed.getD q'.1 false=true:=fun k' q' h h'=>hah _ ((R.pos hq).2.2.2.1 h3 k' q' h h');obtain⟨b1,_⟩:=D.upto R W k hk0 Qe hall;exact goes w p g h3 (Step.refl D.step.hr) (Grow.refl g) (by rw[i1];exact trivial) (by rw[i2];exact b1) fun _ _=>rfl
  ·exact stay w p g h3 (Step.refl D.step.hr) (Grow.refl g) (by rw[i1];exact trivial) D.g1 D.g2 (fun _ h=>by rw[hw]at h;cases h) fun c C hc=>.inl ⟨C,hc⟩
 |true=>
  simp only[if_true]
  by_cases h3:QI P q.2.1.op=3
  ·
   have hall: ∀(k':Nat) (q':Nat×Oper×Nat),k'<k→pl[k']? =some q'→listed.getD q'.1 false=true:=fun k' q' h h'=>hah _ ((R.pos hq).2.2.2.1 h3 k' q' h h');obtain⟨b1,b2⟩:=D.upto R W k hk0 Qe hall;have hcut:=D.step.hr.cut b1 (W.wf k Qe)
   have hgok:Ct w0 (W0 (Sf k).h.get p) G:=⟨fun gg hg=>by
    obtain⟨e,he⟩:=D.gok.1 gg hg;obtain⟨C,hC,_⟩:=W.go k Qe gg hg
    exact⟨e,by rw[Wz hC];exact he⟩,D.gok.2⟩
   have hfit':IJ (only q.2.1 (QJ G (Tf k))) a.eval (W0 (Sf k).h.get p) (Sf k).h.get:=fun x v hx=>by
    have hwf:=W.aR Qe (Is hx).2;exact⟨by rw[(hfit x v hx).1,Yf hcut.AO (fun c m y hy=>(Uq hy).2) v hwf],hwf⟩
   obtain⟨hab,_,hwp⟩:=jw hcall (R.op hq hw) (W.fresh k Qe) hcut hgok hfit';refine hwp r K Q fun p1 w1 hs1 hv1=>?_
   have hout: ∀c,(Sf k).h.get c=none→(∃C,g c=some C)→(Sf (k+1)).h.get c=none:=by
    rintro c hc ⟨C,hgc⟩
    rcases b2 c C hgc with⟨C0,h⟩|⟨k',q',h1,h2,h3',h4,h5,h6⟩
    ·rw[hc]at h;cases h
    ·have hne:k'≠k:=by
      rintro rfl
      rw[hq]at h2
      injection h2 with h2
      subst h2;rw[hnl]at h3';cases h3'
     rw[h6];exact W.fresh (k+1) Qe _ (W.Na k' Qe (by have:=(List.getElem?_eq_some_iff.1 h2).1;omega))
   have hj:=D.step.hr.join b1 hs1 hab.grow hout
   have hle1:JE.le p1 (F9 (Sf (k+1)).h.get p1 p):=fun c m x hx=>by
    obtain⟨C,hC,_⟩:=hs1.hr.dom c m x hx;rw[YE hC];exact hx
   rw[←Yf hs1.hr.AO hle1 _ hv1];refine goes w1 _ _ h3 hj (Gs b1 hab.grow hout) (WF.grow (fun c C hc=>⟨C,Vo hc,List.prefix_refl _⟩) _ hv1) (fun c C hc=>Vo hc) fun c hc=>Eh hc
  ·have hkind:=R.kind hq hw h3;have hroom:Room p g:=fun c m C e h1 h2=>D.step.hr.room c m C e h1 h2;generalize hkk:QI P q.2.1.op=kk at hkind h3
   cases hkind with
   |pure h1 h2=>
    obtain⟨r1,r2⟩:=h2 g (fun x v hx=>(hfit x v hx).2) p w a.eval D.step.hr.AO hroom hfit;refine Wr r1 ?_;exact stay w p g (by rw[hkk];decide) (Step.refl D.step.hr) (Grow.refl g) r2 D.g1 D.g2 (fun h=>by rw[hkk]at h;cases h) fun c C hc=>.inl ⟨C,hc⟩
   |load t ad x h1 h2 hx hld=>
    have hxw:=(hfit ad x hx).2;have hx':=(Is hx).2

    have hnow:Jq P t x g=some (Vf k):=by
     by_cases hno: ∀(k':Nat) (q':Nat×Oper×Nat),k0≤k'→k'<k→pl[k']? =some q'→QI P q'.2.1.op≠3
     ·obtain⟨c,m,off,C,rfl,hC⟩:=Gp hld;obtain⟨Cg,hg,_⟩:=hxw
      have he:g c=(Sf k).h.get c:=by
       rcases D.g3 c Cg hg with⟨C',h⟩|⟨k',q',h1',h2',h3',h4,h5,h6⟩
       ·rw[D.g1 c C' h,R.SX W k hk0 Qe (fun k' q' a b d=>hno k' q' a b d) c C' h]
       ·have hlt:k'<k:=by
         refine Nat.lt_of_not_le fun hge=>?_;rw[h6,W.fresh k Qe _ (W.Na k' hge (by have:=(List.getElem?_eq_some_iff.1 h2').1;omega))]at hC;cases hC
        have hgn:=D.g2 k' q' h1' h2' h3' h4 h5;rw[h6]at hg;rw[h6,hgn];rw[hgn]at hg;rw[hg];exact(R.SX W k Qe Qe (fun k2 q2 a b d=>hno k2 q2 Qe b d) _ Cg hg).symm
      rw[Nk he];exact hld
     ·
      have hmask: ∀(k':Nat) (q':Nat×Oper×Nat),k0≤k'→k'<k→pl[k']? =some q'→QI P q'.2.1.op=3→Nat.testBit (FV ms q.1) q'.1=false:=by
       intro k' q' h h' hq' hk3
       cases hb:Nat.testBit (FV ms q.1) q'.1 with
       |false=>rfl
       |true=>exact absurd hk3 (D.noact k' q' h hq' (hah _ hb))
      obtain⟨s1,s2⟩:=D.snap (FV ms q.1) k hk0 Qe hmask;rw[←(R.pos hq).2.2.2.2 hkk]at s2
      have hpos:0<Xg P pl k0 k:=by
       refine Nat.pos_of_ne_zero fun h0=>hno fun k' q' h h' hq' hk3=>?_
       have hmem:k'∈(List.range k).filter fun i=>decide (k0≤i)&&(match pl[i]? with|some q=>decide (QI P q.2.1.op=3)|none=>false):=by
        rw[List.mem_filter];exact⟨List.mem_range.2 h',by rw[hq'];simp[h,hk3]⟩
       unfold Xg at h0;rw[List.length_eq_zero_iff]at h0;rw[h0]at hmem;cases hmem
      obtain⟨st,x',e1,e2,e3⟩:=RV h2 q.2.2 _ ((R.run k q hq).2.2 hw) (Xg P pl k0 k-1) Qe;rw[List.getElem?_tail,show Xg P pl k0 k-1+1=Xg P pl k0 k by omega,s1]at e1
      injection e1 with e1
      subst e1;rw[hx']at e2
      injection e2 with e2
      subst e2;obtain⟨c,m,off,C,rfl,hC⟩:=Gp e3;rw[←e3];exact Nk (by rw[D.g1 c C hC,hC])
    obtain⟨r1,r2⟩:=V4 hnow D.step.hr
    have hrun:(execOp a.eval q.2.1).run P w=.ok (.value (Qi p (Vf k))) w:=by
     obtain⟨i,⟨dst,op,type,pos,after,guard⟩,r⟩:=q;simp only at h2;subst h2;simp only[execOp,(hfit ad x hx).1,Sem.run_bind,r1,Result.andThen_ok,Sem.run_pure]
    refine Wr hrun ?_;exact stay w p g (by rw[hkk];decide) (Step.refl D.step.hr) (Grow.refl g) r2 D.g1 D.g2 (fun h=>by rw[hkk]at h;cases h) fun c C hc=>.inl ⟨C,hc⟩
   |text sx dx ex ad x h1 h2 hx hld hty=>
    have hxw:=(hfit ad x hx).2

    have hno: ∀(k':Nat) (q':Nat×Oper×Nat),k0≤k'→k'<k→pl[k']? =some q'→QI P q'.2.1.op≠3:=by
     apply Classical.byContradiction;intro hno
     have hmask: ∀(k':Nat) (q':Nat×Oper×Nat),k0≤k'→k'<k→pl[k']? =some q'→QI P q'.2.1.op=3→Nat.testBit (FV ms q.1) q'.1=false:=by
      intro k' q' h h' hq' hk3
      cases hb:Nat.testBit (FV ms q.1) q'.1 with
      |false=>rfl
      |true=>exact absurd hk3 (D.noact k' q' h hq' (hah _ hb))
     obtain⟨s1,s2⟩:=D.snap (FV ms q.1) k hk0 Qe hmask;rw[←(R.pos hq).2.2.2.2 hkk]at s2
     have hpos:0<Xg P pl k0 k:=by
      refine Nat.pos_of_ne_zero fun h0=>hno fun k' q' h h' hq' hk3=>?_
      have hmem:k'∈(List.range k).filter fun i=>decide (k0≤i)&&(match pl[i]? with|some q=>decide (QI P q.2.1.op=3)|none=>false):=by
       rw[List.mem_filter];exact⟨List.mem_range.2 h',by rw[hq'];simp[h,hk3]⟩
      unfold Xg at h0;rw[List.length_eq_zero_iff]at h0;rw[h0]at hmem;cases hmem
     exact RU h2 Qe ((R.run k q hq).2.2 hw)
    have hnow:Wi x g=some (Vf k):=by
     rcases RK hld with rfl|⟨c,m,off,nn,z,C,rfl,hC⟩
     ·exact hld
     ·obtain⟨Cg,_,hg,_⟩:=hxw
      have he:g c=(Sf k).h.get c:=by
       rcases D.g3 c Cg hg with⟨C',h⟩|⟨k',q',h1',h2',h3',h4,h5,h6⟩
       ·rw[D.g1 c C' h,R.SX W k hk0 Qe (fun k' q' a b d=>hno k' q' a b d) c C' h]
       ·have hlt:k'<k:=by
         refine Nat.lt_of_not_le fun hge=>?_;rw[h6,W.fresh k Qe _ (W.Na k' hge (by have:=(List.getElem?_eq_some_iff.1 h2').1;omega))]at hC;cases hC
        have hgn:=D.g2 k' q' h1' h2' h3' h4 h5;rw[h6]at hg;rw[h6,hgn];rw[hgn]at hg;rw[hg];exact(R.SX W k Qe Qe (fun k2 q2 a b d=>hno k2 q2 Qe b d) _ Cg hg).symm
      rw[Ph he];exact hld
    obtain⟨r1,r2⟩:=G9 (P:=P) hnow hty.1 hty.2.1 hty.2.2 D.step.hr
    have hrun:(execOp a.eval q.2.1).run P w=.ok (.value (Qi p (Vf k))) w:=by
     obtain⟨i,⟨dst,op,type,pos,after,guard⟩,r⟩:=q;simp only at h2;subst h2;simp only[execOp,(hfit ad x hx).1,Sem.run_bind,r1,Result.andThen_ok,Sem.run_pure]
    refine Wr hrun ?_;exact stay w p g (by rw[hkk];decide) (Step.refl D.step.hr) (Grow.refl g) r2 D.g1 D.g2 (fun h=>by rw[hkk]at h;cases h) fun c C hc=>.inl ⟨C,hc⟩
   |make C h1 h2=>
    have hgn:g (Sf k).n=none:=by
     cases hg:g (Sf k).n with
     |none=>rfl
     |some C'=>
      rcases D.g3 _ C' hg with⟨C0,h⟩|⟨k',q',h1',h2',h3',h4,h5,h6⟩
      ·rw[W.fresh k0 D.k0le _ (W.Na k hk0 Qe)]at h;cases h
      ·exfalso
       have hk':=(List.getElem?_eq_some_iff.1 h2').1
       have inc: ∀k2 q2,pl[k2]? =some q2→QI P q2.2.1.op=2→U5 ops.toList q2.2.1 (Tf k2)=true→(Sf k2).n<(Sf (k2+1)).n:=fun k2 q2 a b d=>by
        rcases R.one a (by rw[b];decide)with h|⟨_,_,C2,h⟩
        ·have hk2:=R.kind a d (by rw[b];decide);rw[b]at hk2
         cases hk2 with
         |make C2 h' _=>rw[h'];simp
        ·rw[h];simp
       rcases Nat.lt_trichotomy k k' with hlt|he|hlt
       ·have:=inc k q hq hkk hw;have:=W.Na k' (k1:=k+1) hlt Qe;omega
       ·subst he;rw[hq]at h2'
        injection h2' with h2'
        subst h2';rw[hnl]at h3';cases h3'
       ·have:=inc k' q' h2' h4 h5;have:=W.Na k (k1:=k'+1) hlt Qe;omega
    obtain⟨r1,r2⟩:=h2 g hgn fun x v hx=>(hfit x v hx).2;obtain⟨p',w',r3,r4⟩:=r2 w0 p w a.eval D.step.hr hfit;refine Wr r3 ?_;refine stay w' p' _ (by rw[hkk];decide) r4 (Zx fun C' hC'=>by rw[hgn]at hC';cases hC') r1 (fun c C' hc=>?_) (fun k' q' h h' hl h4 h5=>?_) (fun _ _=>?_) fun c C' hc=>?_
    ·rw[YU _ _ (by rintro rfl;rw[D.g1 _ C' hc]at hgn;cases hgn)];exact D.g1 c C' hc
    ·have hgg:=D.g2 k' q' h h' hl h4 h5;rw[YU _ _ fun e=>?_]
     ·exact hgg
     ·rw[e,hgn]at hgg;have hk2:=R.kind h' h5 (by rw[h4];decide);rw[h4]at hk2
      cases hk2 with
      |make C2 h6 _=>
       rw[h6]at hgg;have hgg:none=((Sf k').h.set (Sf k').n C2).get (Sf k).n:=hgg;rw[JF,e,Ui]at hgg;cases hgg
    ·rw[h1];show _=((Sf k).h.set (Sf k).n C).get (Sf k).n;rw[JF,Ui,Ui]
    ·by_cases hcn:c=(Sf k).n
     ·exact .inr ⟨hkk,hw,hcn⟩
     ·rw[YU _ _ hcn]at hc;exact .inl ⟨C',hc⟩
   |act _ _=>exact absurd rfl h3

theorem VI.all(R:FY P G call N ops ms pl Tf Sf Vf)(W:x8 G pl Tf Sf)(hcall:Wp P G call){Q:Exit→Act→World→Prop}{r:Option Nat}
  (hQ: ∀p' w' a',Step w0 pS wS p' (Sf pl.length).h.get w'→TR p' (Sf pl.length).h.get (Tf pl.length) a' N ds→Q .normal a' w'):
  ∀(fuel:Nat) (listed:Array Bool) (k0:Nat) (a:Act) (w:World) (p:JE) (g:Hp),VI P G N ops pl Tf Sf Vf w0 pS wS ds k0 listed a w p g→listed.toList.count true+fuel=ops.size→wpAnyIn (FR r) 0 P .any ops Q fuel listed a w:=by

 have fin: ∀(listed:Array Bool) (k0:Nat) (a:Act) (w:World) (p:JE) (g:Hp),VI P G N ops pl Tf Sf Vf w0 pS wS ds k0 listed a w p g→(∀j,j<ops.size→listed.getD j false=true)→Q .normal a w:=by
  intro listed k0 a w p g D hall;have hl: ∀(k':Nat) (q':Nat×Oper×Nat),pl[k']? =some q'→listed.getD q'.1 false=true:=fun k' q' h=>hall _ (Array.getElem?_eq_some_iff.1 (R.pos h).1).1;obtain⟨b1,b2⟩:=D.upto R W pl.length D.k0le (Nat.le_refl _) fun k' q' _ h=>hl k' q' h
  have hgeq:g=(Sf pl.length).h.get:=by
   funext c
   cases hc:g c with
   |none=>
    cases hs:(Sf pl.length).h.get c with
    |none=>rfl
    |some C=>rw[b1 c C hs]at hc;cases hc
   |some C=>
    rcases b2 c C hc with⟨C',h⟩|⟨k',q',h1,h2,_⟩
    ·rw[h,←hc,b1 c C' h]
    ·have:=(List.getElem?_eq_some_iff.1 h2).1;omega
  subst hgeq;refine hQ p w a D.step ⟨D.tsize,fun t=>?_,D.defers⟩;obtain⟨tc1,tc2⟩:=R.xD pl.length (Nat.le_refl _) t
  by_cases hex: ∃(k':Nat) (q':Nat×Oper×Nat),pl[k']? =some q'∧q'.2.1.dst=some t
  ·obtain⟨k',q',hq',hd⟩:=hex;rw[tc2 k' q' (List.getElem?_eq_some_iff.1 hq').1 hq' hd];exact D.t2 k' q' t hq' (hl k' q' hq') hd
  ·rw[tc1 fun k' q' _ hq' hd=>hex ⟨k',q',hq',hd⟩];exact D.t1 t fun k' q' hq' _ hd=>hex ⟨k',q',hq',hd⟩

 have done: ∀(listed:Array Bool) (k0:Nat) (a:Act) (w:World) (p:JE) (g:Hp),VI P G N ops pl Tf Sf Vf w0 pS wS ds k0 listed a w p g→Region.ready .any ops listed=[]→ ∀j,j<ops.size→listed.getD j false=true:=by
  intro listed k0 a w p g D hr j
  induction j using Nat.strongRecOn with
  |_ j ih=>
   intro hj
   cases hb:listed.getD j false with
   |true=>rfl
   |false=>
    exfalso
    have hjl:j<listed.size:=by rw[D.size];exact hj
    have hun:listed.getD j true=false:=by
     rw[Array.getD_eq_getD_getElem?]at hb ⊢
     simpa [hjl]using hb
    have hoj:ops[j]? =some ops[j]:=Array.getElem?_eq_getElem hj
    have hmem:j∈Region.ready .any ops listed:=mem_ready.2 ⟨hun,ops[j],hoj,fun e he hbi=>by
     have hee:e.on∈US ops[j]:=List.mem_map.2 ⟨e,List.mem_filter.2 ⟨by simpa using he,hbi⟩,rfl⟩;have:=(Kc R.mo j ops[j] (by rw[Array.getElem?_toList];exact hoj)).1 _ hee
     exact ih _ this Qe⟩
    rw[hr]at hmem;cases hmem
 intro fuel
 induction fuel with
 |zero=>
  intro listed k0 a w p g D hcnt
  have hall: ∀j,j<ops.size→listed.getD j false=true:=fun j hj=>by
   have hlen:listed.toList.count true=listed.toList.length:=by rw[Array.length_toList,D.size];omega
   have hjl:j<listed.size:=by rw[D.size];exact hj
   have:=List.count_eq_length.1 hlen listed[j] QA;rw[Array.getD_eq_getD_getElem?];simp[hjl];exact this.symm
  refine⟨?_,fin listed k0 a w p g D hall⟩
  cases hr:Region.ready .any ops listed with
  |nil=>rfl
  |cons j rs=>
   have hj:j∈Region.ready .any ops listed:=by rw[hr];simp
   obtain⟨h0,o,ho,_⟩:=mem_ready.1 hj;have:=hall j (Array.getElem?_eq_some_iff.1 ho).1;rw[(VO h0).2]at this;cases this
 |succ fuel ih=>
  intro listed k0 a w p g D hcnt;refine⟨fun hr=>fin listed k0 a w p g D (done listed k0 a w p g D hr),fun j hj=>?_⟩;obtain⟨h0,o,ho,hed⟩:=mem_ready.1 hj
  have hjn:j<ops.toList.length:=by rw[Array.length_toList];exact(Array.getElem?_eq_some_iff.1 ho).1
  rcases jd pl 0 [] R.pa j hjn with h|⟨k,q,hq,hqj⟩
  ·simp at h
  ·subst hqj;have hoq:=(R.pos hq).1;rw[ho]at hoq
   injection hoq with hoq
   subst hoq;refine D.next R W hcall hq h0 (fun e he=>?_) fun k0' a' w' p' g' D'=>ih _ k0' a' w' p' g' D' ?_
   ·obtain⟨ed,hed',rfl⟩:=List.mem_map.1 he;obtain⟨h1,h2⟩:=List.mem_filter.1 hed';exact hed ed (by simpa using h1) h2
   ·rw[count_set h0];omega

end

theorem Dd{P:Program}{ops:List Oper}{pl:OM}(h:VZ P ops=some pl):Nf ops (ET ops)=true∧GS ops (ET ops)=true∧IK P ops (ET ops) ops.length 0 [] pl:=by
 unfold VZ at h;obtain⟨h1,h⟩:=Qy h;obtain⟨h2,h⟩:=Qy h;rw[Ur]at h;exact⟨h1,h2,PW _ 0 [] pl h⟩
theorem BR{P:Program}{G:Env}(hm:P.follows .mixedOrders=true):RX P G:=by
 intro call hcall N ops pl hpl T T' st st' h hf w0 p w a ds H hG hT;obtain⟨h1,h2,h3⟩:=Dd hpl;obtain⟨Tf,Sf,Vf,e1,e2,e3,e4,e5⟩:=trace pl T T' st st' [st] h;subst e1 e2 e3 e4;have R:FY P G call N ops (ET ops.toList) pl Tf Sf Vf:=⟨h1,h2,h3,e5⟩;have W:=R.aT hcall hf H hG hT;obtain⟨r1,r2,_⟩:=R.real hcall hf H hG hT pl.length (Nat.le_refl _);refine⟨r1,r2,fun r id Q hQ=>wpIn_region_any hm ?_⟩;have hd:=Step.drew H (w.drawn+1);refine VI.all (w0:=w0) (pS:=p) (wS:=w) R W hcall hQ ops.size (Array.replicate ops.size false) 0 a _ p (Sf 0).h.get ?_ (by simp[List.count_replicate])
 have hno: ∀j,(Array.replicate ops.size false).getD j false=false:=fun j=>by
  rw[Array.getD_eq_getD_getElem?,Array.getElem?_replicate]
  split<;>rfl
 refine⟨by simp,fun j o _ hl=>(by rw[hno]at hl;cases hl),Nat.zero_le _,fun k q hk=>Qe,fun k q _ _ hl=>(by rw[hno]at hl;cases hl),.inl rfl,hd,hG,fun c C hc=>hc,fun k q _ _ hl=>(by rw[hno]at hl;cases hl),fun c C hc=>.inl ⟨C,hc⟩,hT.size,hT.defers,fun t _=>hT.get t,fun k q t _ hl=>(by rw[hno]at hl;cases hl)⟩

theorem Pb{P:Program}{G:Env}(hG0: ∀g,G.g g=false)(hE:Ks P G)(hm:P.follows .mixedOrders=true){f:FuncId}{args:List AV}{L fuel n:Nat}(hargs:Zp (Tr.nil:Tr Ic).get args)(h:isTrue (Uf P G L fuel f args ⟨n,.nil⟩)=true)(w:World)(hi:G.i w):
  Calls P f (Qs (fun _ _=>none) args).toArray w fun e w'=>e=.returned (.bool true)∧Below w.heap.size w w':=by
 cases hr:Uf P G L fuel f args ⟨n,.nil⟩with
 |none=>rw[hr]at h;cases h
 |some r=>
  obtain⟨v,st'⟩:=r;rw[hr]at h
  have hv:v=.bool true:=by
   unfold isTrue at h;simp only at h
   split at h
   ·rw[h]
   ·cases h
  subst hv;have H:HR w (fun _ _=>none) (Tr.nil:Tr Ic).get w:=⟨rfl,rfl,rfl,Nat.le_refl _,fun _ _=>rfl,fun c m x hx=>(by cases hx),fun c m x hx=>(by cases hx),fun c m x c' m' x' hx=>(by cases hx),fun c C hc=>(by cases hc)⟩;have hcalls:=((Cc (BR hm) hE L fuel f args ⟨n,.nil⟩ (.bool true) st' hr (fun _ _=>rfl) hargs).2 w _ w H ⟨fun g hg=>(by rw[hG0]at hg;cases hg),hi⟩).2;refine hcalls.mono fun e w'=>?_
  rintro⟨p',rfl,hs,_⟩
  exact⟨rfl,hs.hr.os,hs.hr.tape,hs.hr.output,hs.hr.size,hs.hr.J8⟩

end Go.Proofs.YtiknomepbklibaaGreatDoor
end

section

namespace Go.Proofs.YtiknomepbklibaaGreatDoor
open Go Go.RowKit

theorem QO{β:Type}(k:Option β):QN true k=k:=rfl
theorem wR(n:Nat):Og (Int.ofNat n)=some n:=rfl

theorem HR.below{w0:World}{p:JE}{h:Hp}{w w':World}(H:HR w0 p h w)(B:Below w.heap.size w w'):HR w0 p h w':=by
 refine⟨B.os.trans H.os,B.tape.trans H.tape,B.output.trans H.output,Nat.le_trans H.size B.size,fun b hb=>?_,H.dom,fun c m x hx=>Nat.lt_of_lt_of_le (H.lt c m x hx) B.size,H.apart,fun c C hC=>?_⟩
 ·rw[B.block b (Nat.lt_of_lt_of_le hb H.size)];exact H.J8 b hb
 ·exact(H.cls c C hC).keep H.AO (fun _ _ _ hx=>hx) (Grow.refl h) (fun _ _ hx=>hx) fun m x hx=>B.block x.b (H.lt c m x hx)
theorem HR.AQ{w0:World}{p:JE}{h:Hp}{w w':World}(H:HR w0 p h w)(B:Below w.heap.size w w'):Step w0 p w p h w':=
 ⟨fun _ _ _ hx=>hx,H.below B,⟨B.size,fun b hb _=>B.block b hb⟩,fun c m x hx hn=>by rw[hn]at hx;cases hx⟩
noncomputable def GX:List AV→St→Option (AV×St):=fun args st=>List.rec (some (.bool true,st)) (fun _ _ _=>none) args
noncomputable def Env.known(G:Env)(f:FuncId):Env:=⟨G.g,G.b,fun k=>Bool.rec (G.s k) (some GX) (Nat.beq k f),G.i⟩
end Go.Proofs.YtiknomepbklibaaGreatDoor
end
end
section
namespace Go.Proofs.YtiknomepbklibaaGreatDoor
open Go

noncomputable section

def Td(l:List (FuncId×TypeId×TypeId))(f:FuncId):Option (TypeId×TypeId):=List.rec none (fun q _ ih=>Qo (Nat.beq f q.1) (some q.2) ih) l
theorem Gz{l:List (FuncId×TypeId×TypeId)}{f:FuncId}{q:TypeId×TypeId}(h:Td l f=some q):(f,q)∈l:=by
 induction l with
 |nil=>cases h
 |cons x l ih=>
  have h:Qo (Nat.beq f x.1) (some x.2) (Td l f)=some q:=h
  cases hb:Nat.beq f x.1 with
  |true=>
   rw[hb]at h
   injection h with h
   subst h;rw[Nat.eq_of_beq_eq_true hb];exact List.mem_cons_self ..
  |false=>rw[hb]at h;exact List.mem_cons_of_mem _ (ih h)
def Tw:List (FuncId×TypeId×TypeId):=
 []
theorem Pm: ∀x∈Tw,RZ Tryz.prog x.2 x.1:=by
 intro x hx;unfold Tw at hx;cases hx
end
theorem mixed:Tryz.prog.follows .mixedOrders=true:=by decide+kernel

end Go.Proofs.YtiknomepbklibaaGreatDoor
end
section
section

namespace Go.Proofs.YtiknomepbklibaaGreatDoor
open Go
variable {N:Nat} {T:Tr AV} {ops:List Oper}

def wY(c c':YQ):Prop:= ∀f args st r,c f args st=some r→c' f args st=some r
theorem Yt{α β:Type}{x:Option α}{k k':α→Option β}{r:β}(h:ob x k=some r)(hk: ∀a,x=some a→k a=some r→k' a=some r):ob x k'=some r:=by
 obtain⟨a,ha,h⟩:=Qm h;rw[ha];exact hk a ha h
theorem W6{β:Type}{b:Bool}{k k':Option β}{r:β}(h:QN b k=some r)(hk:k=some r→k'=some r):QN b k'=some r:=by
 obtain⟨hb,h⟩:=Qy h;subst hb;exact hk h
variable {P:Program} {G:Env}
theorem jx{R:Operand→Option AV}{c c':YQ}(hc:wY c c'){o:Oper}{st:St}{r:AV×St}(h:Rg P R c o st=some r):Rg P R c' o st=some r:=by
 obtain⟨dst,op,ty,pos,af,g⟩:=o
 cases op with
 |call cl=>
  obtain⟨callee,args,tys⟩:=cl
  cases callee with
  |value f=>
   have h:(ob (R f) fun v=>(match v with
    |.fn fid a cap=>ob (U0 R args.toList) fun l=>c fid (ZC a (ZC l cap)) st
    |_=>none))=some r:=h
   show(ob (R f) fun v=>(match v with
    |.fn fid a cap=>ob (U0 R args.toList) fun l=>c' fid (ZC a (ZC l cap)) st
    |_=>none))=some r
   refine Yt h fun v _ h=>?_
   cases v with
   |fn fid a cap=>exact Yt h fun l _ h=>hc _ _ _ _ h
   |_=>cases h
  |invoke f name=>
   have h:(ob (R f) fun v=>(match v with
    |.ifc t u=>ob (EP P t name) fun fid=>ob (U0 R args.toList) fun l=>c fid (u::l) st
    |_=>none))=some r:=h
   show(ob (R f) fun v=>(match v with
    |.ifc t u=>ob (EP P t name) fun fid=>ob (U0 R args.toList) fun l=>c' fid (u::l) st
    |_=>none))=some r
   refine Yt h fun v _ h=>?_
   cases v with
   |ifc t u=>exact Yt h fun fid _ h=>Yt h fun l _ h=>hc _ _ _ _ h
   |_=>cases h
  |_=>exact h
 |_=>exact h
theorem L6{c c':YQ}(hc:wY c c'){o:Oper}{st:St}{r:AV×St}(h:UK P G c ops o T st=some r):UK P G c' ops o T st=some r:=by
 unfold UK at h ⊢
 cases hw:U5 ops o T with
 |true=>rw[hw]at h;exact jx hc h
 |false=>rw[hw]at h;exact h
theorem AE{β:Type}{d:Option Nat}{v:AV}{k k':Tr AV→Option β}{r:β}(h:WV N d v T k=some r)(hk: ∀T,k T=some r→k' T=some r):WV N d v T k'=some r:=by
 cases d with
 |none=>exact hk _ h
 |some t=>
  have h:QN (Nat.ble (t+1) N) (T.put t v k)=some r:=h;show QN (Nat.ble (t+1) N) (T.put t v k')=some r;refine W6 h fun h=>?_;rw[Tr.put_eq]at h ⊢;exact hk _ h
theorem Ga{c c':YQ}(hc:wY c c'): ∀(l:List Oper) (T:Tr AV) (st:St) (r:Tr AV×St),F7 P G c N ops l T st=some r→F7 P G c' N ops l T st=some r:=by
 intro l
 induction l with
 |nil=>intro T st r h;exact h
 |cons o l ih=>
  intro T st r h;have h:(ob (UK P G c ops o T st) fun r=>WV N o.dst r.1 T fun T=>tl (F7 P G c N ops l T r.2))=some r:=h;show(ob (UK P G c' ops o T st) fun r=>WV N o.dst r.1 T fun T=>tl (F7 P G c' N ops l T r.2))=some r;obtain⟨a,ha,h⟩:=Qm h;rw[L6 hc ha,Ql];exact AE h fun T h=>ih T a.2 r h
theorem Gb{c c':YQ}(hc:wY c c'): ∀(l:List (Nat×Oper×Nat)) (T:Tr AV) (st:St) (sn:List St) (r:Tr AV×St),EL P G c N ops l T st sn=some r→EL P G c' N ops l T st sn=some r:=by
 intro l
 induction l with
 |nil=>intro T st sn r h;exact h
 |cons q l ih=>
  intro T st sn r h
  have h:(ob (UK P G c ops q.2.1 T st) fun r=>QN (Qo (U5 ops q.2.1 T) (again P G q.2.1 T r.1 q.2.2 (List.rec [] (fun _ t _=>t) sn)) true)
   (WV N q.2.1.dst r.1 T fun T=>tl (EL P G c N ops l T r.2 (Qo (Nat.beq (QI P q.2.1.op) 3) (r.2::sn) sn))))=some r:=h
  show(ob (UK P G c' ops q.2.1 T st) fun r=>QN (Qo (U5 ops q.2.1 T) (again P G q.2.1 T r.1 q.2.2 (List.rec [] (fun _ t _=>t) sn)) true)
   (WV N q.2.1.dst r.1 T fun T=>tl (EL P G c' N ops l T r.2 (Qo (Nat.beq (QI P q.2.1.op) 3) (r.2::sn) sn))))=some r
  obtain⟨a,ha,h⟩:=Qm h;rw[L6 hc ha,Ql];refine W6 h fun h=>AE h fun T h=>ih T a.2 _ r h
theorem Nj{f f':Tr AV→St→Option (Ex×Tr AV×St)}(hf: ∀T st r,f T st=some r→f' T st=some r): ∀(L L':Nat),L≤L'→ ∀T st r,H5 L f T st=some r→H5 L' f' T st=some r:=by
 intro L
 induction L with
 |zero=>intro L' _ T st r h;cases h
 |succ L ih=>
  intro L' hL T st r h;obtain⟨M,rfl⟩: ∃M,L'=M+1:=⟨L'-1,by omega⟩;have h:Wv (f T st) (H5 L f)=some r:=h;show Wv (f' T st) (H5 M f')=some r;rcases Hj h with⟨T1,st1,h1,h2⟩|⟨h1,h2⟩
  ·rw[hf _ _ _ h1];exact ih M Qe _ _ _ h2
  ·rw[hf _ _ _ h1];obtain⟨e,T,st⟩:=r
   cases e with
   |nor=>exact absurd rfl h2
   |exit i=>rfl
   |ret=>rfl
theorem RP{ts te:TypeId}{cap:AV}{ps:List Tmp}{fa fb fa' fb':Tr AV→St→Option (Ex×Tr AV×St)}(ha: ∀T st r,fa T st=some r→fa' T st=some r)(hb: ∀T st r,fb T st=some r→fb' T st=some r):
  ∀(n:Nat) (st:St) (r:Ex×Tr AV×St),Aq P N ts te cap ps fa fb T n st=some r→Aq P N ts te cap ps fa' fb' T n st=some r:=by
 intro n
 induction n with
 |zero=>intro st r h;exact h
 |succ n ih=>
  intro st r h
  have h:(ob (Jq P ts cap st.h.get) fun s=>ob (Yj P ts s (.int .i64 (Int.ofNat n))) fun q=>ob (Jq P te q st.h.get) fun v=>
   NV N ps (.int .i64 (Int.ofNat n)) v T fun T1=>ob (fa T1 st) fun r=>Ex.rec (ob (fb r.2.1 r.2.2) fun q=>Ex.rec (tl (Aq P N ts te cap ps fa fb T n q.2.2)) (fun id=>some (.exit id,T,q.2.2)) (some (.ret,T,q.2.2)) q.1) (fun _=>none) none r.1)=some r:=h
  show(ob (Jq P ts cap st.h.get) fun s=>ob (Yj P ts s (.int .i64 (Int.ofNat n))) fun q=>ob (Jq P te q st.h.get) fun v=>
   NV N ps (.int .i64 (Int.ofNat n)) v T fun T1=>ob (fa' T1 st) fun r=>Ex.rec (ob (fb' r.2.1 r.2.2) fun q=>Ex.rec (tl (Aq P N ts te cap ps fa' fb' T n q.2.2)) (fun id=>some (.exit id,T,q.2.2)) (some (.ret,T,q.2.2)) q.1) (fun _=>none) none r.1)=some r
  refine Yt h fun s _ h=>Yt h fun q _ h=>Yt h fun v _ h=>?_;unfold NV at h ⊢
  split at h
  ·refine AE h fun T h=>AE h fun T h=>?_;obtain⟨⟨e1,T2,st2⟩,h1,h⟩:=Qm h;rw[ha _ _ _ h1,Ql]
   cases e1 with
   |exit i=>cases h
   |ret=>cases h
   |nor=>
    obtain⟨⟨e,T3,st3⟩,h2,h⟩:=Qm h;show(ob (fb' T2 st2) _)=_;rw[hb _ _ _ h2,Ql]
    cases e with
    |nor=>exact ih _ _ h
    |exit i=>exact h
    |ret=>exact h
  ·cases h
theorem G7{c c':YQ}(hc:wY c c'){L L':Nat}(hL:L≤L'): ∀(k:Code) (T:Tr AV) (st:St) (r:Ex×Tr AV×St),codeF P G c N L k T st=some r→codeF P G c' N L' k T st=some r:=by
 intro k
 induction k with
 |region id ops draw=>
  intro T st r h
  cases draw with
  |true=>
   have h:(ob (VZ P ops.toList) fun pl=>ob (EL P G c N ops.toList pl T st [st]) fun r=>some (Ex.nor,r))=some r:=h;show(ob (VZ P ops.toList) fun pl=>ob (EL P G c' N ops.toList pl T st [st]) fun r=>some (Ex.nor,r))=some r;refine Yt h fun pl _ h=>?_;obtain⟨a,ha,h⟩:=Qm h;rw[Gb hc _ _ _ _ _ ha];exact h
  |false=>
   have h:(ob (F7 P G c N ops.toList ops.toList T st) fun r=>some (Ex.nor,r))=some r:=h;show(ob (F7 P G c' N ops.toList ops.toList T st) fun r=>some (Ex.nor,r))=some r;obtain⟨a,ha,h⟩:=Qm h;rw[Ga hc _ _ _ _ ha];exact h
 |seq x y ihx ihy=>
  intro T st r h;have h:Wv (codeF P G c N L x T st) (codeF P G c N L y)=some r:=h;show Wv (codeF P G c' N L' x T st) (codeF P G c' N L' y)=some r;rcases Hj h with⟨T1,st1,h1,h2⟩|⟨h1,h2⟩
  ·rw[ihx _ _ _ h1];exact ihy _ _ _ h2
  ·rw[ihx _ _ _ h1];obtain⟨e,T,st⟩:=r
   cases e with
   |nor=>exact absurd rfl h2
   |exit i=>rfl
   |ret=>rfl
 |cond g x y ihx ihy=>
  intro T st r h;have h:G5 (QJ G T g) (tl (codeF P G c N L x T st)) (tl (codeF P G c N L y T st))=some r:=h;show G5 (QJ G T g) (tl (codeF P G c' N L' x T st)) (tl (codeF P G c' N L' y T st))=some r;refine Yt h fun v _ h=>?_
  cases v with
  |bool b=>
   cases b with
   |true=>exact ihx _ _ _ h
   |false=>exact ihy _ _ _ h
  |_=>cases h
 |block id x ih=>
  intro T st r h;have h:NR id (codeF P G c N L x T st)=some r:=h;show NR id (codeF P G c' N L' x T st)=some r;obtain⟨a,ha,h⟩:=Qm h;rw[ih _ _ _ ha];exact h
 |loop x ih=>intro T st r h;exact Nj ih L L' hL T st r h
 |rangeFunc g ps a b iha ihb=>
  intro T st r h;have h:Io P G N g ps.toList (Qo (Xt a) (Xt b) false) (codeF P G c N L a) (codeF P G c N L b) T st=some r:=h;show Io P G N g ps.toList (Qo (Xt a) (Xt b) false) (codeF P G c' N L' a) (codeF P G c' N L' b) T st=some r;unfold Io at h ⊢;refine W6 h fun h=>Yt h fun v _ h=>?_
  split at h
  ·refine Yt h fun q _ h=>?_
   split at h
   ·split at h
    ·refine Yt h fun s _ h=>Yt h fun n _ h=>?_
     split at h
     ·exact Yt h fun n _ h=>W6 h fun h=>RP iha ihb _ _ _ h
     ·cases h
    ·cases h
   ·cases h
  ·cases h
 |_=>intro T st r h;exact h
theorem qe: ∀(l:List AV) (i:Nat) (T:Tr AV),(∀t,i≤t→Y0 T t=.tup [])→ ∃T',(∀(β:Type) (k:Tr AV→β),List.rec (motive:=fun _=>Nat→Tr AV→β) (fun(_:Nat) T=>k T) (fun v _ ih i T=>T.put i v (ih (i+1))) l i T=k T')∧
  ∀t,Y0 T' t=if t<i then Y0 T t else(l[t-i]?).getD (.tup []):=by
 intro l
 induction l with
 |nil=>
  intro i T hT;refine⟨T,fun _ _=>rfl,fun t=>?_⟩
  by_cases h:t<i
  ·rw[if_pos h]
  ·rw[if_neg h,hT t Qe];simp
 |cons v l ih=>
  intro i T hT
  obtain⟨T',h1,h2⟩:=ih (i+1) (T.set i v) fun t ht=>by rw[ZX,if_neg Qe];exact hT t Qe
  refine⟨T',fun β k=>?_,fun t=>?_⟩
  ·show T.put i v _=_;rw[Tr.put_eq];exact h1 β k
  ·rw[h2,ZX]
   by_cases h:t<i
   ·rw[if_pos Qe,if_neg Qe,if_pos h]
   ·rw[if_neg h]
    by_cases h3:t=i
    ·subst h3;rw[if_pos Qe,if_pos rfl];simp
    ·rw[if_neg Qe,show t-i=(t-(i+1))+1 by omega];simp
theorem GD(l:List AV): ∃T,(∀(β:Type) (k:Tr AV→β),Kn l k=k T)∧ ∀t,Y0 T t=(l[t]?).getD (.tup []):=by
 obtain⟨T,h1,h2⟩:=qe l 0 .nil fun t _=>rfl;exact⟨T,h1,fun t=>by rw[h2,if_neg Qe,Nat.sub_zero]⟩
theorem Xx: ∀(n m L L':Nat),n≤m→L≤L'→wY (Uf P G L n) (Uf P G L' m):=by
 intro n
 induction n with
 |zero=>intro m L L' _ _ f args st r h;cases h
 |succ n ih=>
  intro m L L' hnm hL f args st r h;obtain⟨k,rfl⟩: ∃k,m=k+1:=⟨m-1,by omega⟩;have h:(Option.rec (ob (Nz P f) fun q=>QN (Nat.ble (Zl args) q.2.1) (Kn args fun T=>NC (codeF P G (Uf P G L n) q.2.1 L q.1 T st) fun T st=>ob (J9 P q.2.2 T st) fun v=>some (v,st))) (fun sm=>sm args st) (G.s f):Option (AV×St))=some r:=h;show(Option.rec (ob (Nz P f) fun q=>QN (Nat.ble (Zl args) q.2.1) (Kn args fun T=>NC (codeF P G (Uf P G L' k) q.2.1 L' q.1 T st) fun T st=>ob (J9 P q.2.2 T st) fun v=>some (v,st))) (fun sm=>sm args st) (G.s f):Option (AV×St))=some r
  cases hs:G.s f with
  |some sm=>rw[hs]at h;exact h
  |none=>
   rw[hs]at h;refine Yt h fun q _ h=>W6 h fun h=>?_;obtain⟨T,h1,_⟩:=GD args;rw[h1]at h ⊢;obtain⟨⟨e,T2,st2⟩,hc,h⟩:=Qm h;have hc':=G7 (ih k L L' Qe hL) hL q.1 T st _ hc;show NC (codeF P G (Uf P G L' k) q.2.1 L' q.1 T st) _=_;rw[hc'];exact h

end Go.Proofs.YtiknomepbklibaaGreatDoor
end

section

namespace Go.Proofs.YtiknomepbklibaaGreatDoor
open Go
variable {c:Code} {id:Nat} {st1:St} {v:AV}

def Ev(P:Program)(G:Env)(f:FuncId)(args:List AV)(st:St)(v:AV)(st':St):Prop:= ∃L n,Uf P G L n f args st=some (v,st')
def W(P:Program)(G:Env)(N:Nat)(c:Code)(Q:Ex→Tr AV→St→Prop)(T:Tr AV)(st:St):Prop:= ∃L n x T' st',codeF P G (Uf P G L n) N L c T st=some (x,T',st')∧Q x T' st'
def WR(P:Program)(G:Env)(N:Nat)(ops l:List Oper)(Q:Tr AV→St→Prop)(T:Tr AV)(st:St):Prop:= ∃L n T' st',F7 P G (Uf P G L n) N ops l T st=some (T',st')∧Q T' st'
def WD(P:Program)(G:Env)(N:Nat)(ops:List Oper)(l:List (Nat×Oper×Nat))(Q:Tr AV→St→Prop)(T:Tr AV)(st:St)(sn:List St):Prop:= ∃L n T' st',EL P G (Uf P G L n) N ops l T st sn=some (T',st')∧Q T' st'

def Lv(k:Tr AV→St→Prop)(Q:Ex→Tr AV→St→Prop):Ex→Tr AV→St→Prop
 |.nor=>k
 |x=>Q x
def Cf(id:Nat)(Q:Ex→Tr AV→St→Prop):Ex→Tr AV→St→Prop
 |.exit i=>if i=id then Q .nor else Q (.exit i)
 |x=>Q x

variable {P:Program} {G:Env} {N:Nat} {Q:Ex→Tr AV→St→Prop} {T:Tr AV} {st:St}

theorem Vp{L L' n n':Nat}(hL:L≤L')(hn:n≤n'){T:Tr AV}{st:St}{r:Ex×Tr AV×St}(h:codeF P G (Uf P G L n) N L c T st=some r):codeF P G (Uf P G L' n') N L' c T st=some r:=
 G7 (Xx n n' L L' hn hL) hL c T st r h
theorem qq{Q':Ex→Tr AV→St→Prop}(h:W P G N c Q T st)(hq: ∀x T st,Q x T st→Q' x T st):W P G N c Q' T st:=by
 obtain⟨L,n,x,T',st',h1,h2⟩:=h;exact⟨L,n,x,T',st',h1,hq _ _ _ h2⟩
theorem Xr(h:Q .nor T st):W P G N .skip Q T st:=⟨0,0,_,_,_,rfl,h⟩
theorem yO{l:Nat}(h:Q .nor T st):W P G N (.label l) Q T st:=⟨0,0,_,_,_,rfl,h⟩
theorem QW(h:Q (.exit id) T st):W P G N (.exit id) Q T st:=⟨0,0,_,_,_,rfl,h⟩
theorem Jz(h:Q .ret T st):W P G N .ret Q T st:=⟨0,0,_,_,_,rfl,h⟩
theorem QD{a b:Code}(h:W P G N a (Lv (W P G N b Q) Q) T st):W P G N (.seq a b) Q T st:=by
 obtain⟨L,n,x,T1,st1,h1,h2⟩:=h
 cases x with
 |nor=>
  obtain⟨L',n',y,T2,st2,h3,h4⟩:=h2;refine⟨max L L',max n n',y,T2,st2,?_,h4⟩;show Wv (codeF P G _ N _ a T st) (codeF P G _ N _ b)=_;rw[Vp (Nat.le_max_left L L') (Nat.le_max_left n n') h1];exact Vp (Nat.le_max_right L L') (Nat.le_max_right n n') h3
 |exit i=>exact⟨L,n,_,T1,st1,by show Wv (codeF P G _ N _ a T st) (codeF P G _ N _ b)=_;rw[h1];rfl,h2⟩
 |ret=>exact⟨L,n,_,T1,st1,by show Wv (codeF P G _ N _ a T st) (codeF P G _ N _ b)=_;rw[h1];rfl,h2⟩
theorem Qq{g:Operand}{a b:Code}{t:Bool}(hg:QJ G T g=some (.bool t))(ha:t=true→W P G N a Q T st)(hb:t=false→W P G N b Q T st):W P G N (.cond g a b) Q T st:=by
 cases t with
 |true=>
  obtain⟨L,n,x,T',st',h1,h2⟩:=ha rfl;exact⟨L,n,x,T',st',by show G5 (QJ G T g) _ _=_;rw[hg];exact h1,h2⟩
 |false=>
  obtain⟨L,n,x,T',st',h1,h2⟩:=hb rfl;exact⟨L,n,x,T',st',by show G5 (QJ G T g) _ _=_;rw[hg];exact h1,h2⟩
theorem GO(h:W P G N c (Cf id Q) T st):W P G N (.block id c) Q T st:=by
 obtain⟨L,n,x,T',st',h1,h2⟩:=h;have e:codeF P G (Uf P G L n) N L (.block id c) T st=NR id (codeF P G (Uf P G L n) N L c T st):=rfl;rw[h1]at e
 cases x with
 |nor=>exact⟨L,n,_,T',st',e,h2⟩
 |ret=>exact⟨L,n,_,T',st',e,h2⟩
 |exit i=>
  by_cases hi:i=id
  ·subst hi;have h2:(if i=i then Q .nor else Q (.exit i)) T' st':=h2;rw[if_pos rfl]at h2;refine⟨L,n,.nor,T',st',?_,h2⟩;rw[e];show Qo (Nat.beq i i) _ _=_;rw[Nat.beq_refl];rfl
  ·have h2:(if i=id then Q .nor else Q (.exit i)) T' st':=h2;rw[if_neg hi]at h2;refine⟨L,n,.exit i,T',st',?_,h2⟩;rw[e];show Qo (Nat.beq i id) _ _=_
   have:Nat.beq i id=false:=by
    cases hb:Nat.beq i id with
    |false=>rfl
    |true=>exact absurd (Nat.eq_of_beq_eq_true hb) hi
   rw[this];rfl
theorem Jd(h:W P G N c (Lv (W P G N (.loop c) Q) Q) T st):W P G N (.loop c) Q T st:=by
 obtain⟨L,n,x,T1,st1,h1,h2⟩:=h;have e: ∀L n,codeF P G (Uf P G (L+1) n) N (L+1) (.loop c) T st=Wv (codeF P G (Uf P G (L+1) n) N (L+1) c T st) (H5 L (codeF P G (Uf P G (L+1) n) N (L+1) c)):=fun _ _=>rfl
 cases x with
 |nor=>
  obtain⟨L',n',y,T2,st2,h3,h4⟩:=h2;refine⟨max L L'+1,max n n',y,T2,st2,?_,h4⟩;rw[e,Vp (Nat.le_succ_of_le (Nat.le_max_left L L')) (Nat.le_max_left n n') h1];have h3:H5 L' (codeF P G (Uf P G L' n') N L' c) T1 st1=some (y,T2,st2):=h3;exact Nj (fun T st r h=>Vp (Nat.le_succ_of_le (Nat.le_max_right L L')) (Nat.le_max_right n n') h) L' (max L L') (Nat.le_max_right _ _) T1 st1 _ h3
 |exit i=>exact⟨L+1,n,_,T1,st1,by rw[e,Vp (Nat.le_succ L) (Nat.le_refl n) h1];rfl,h2⟩
 |ret=>exact⟨L+1,n,_,T1,st1,by rw[e,Vp (Nat.le_succ L) (Nat.le_refl n) h1];rfl,h2⟩
theorem Je(I:Nat→Tr AV→St→Prop)(hstep: ∀n T st,I n T st→W P G N c (Lv (fun T' st'=> ∃m,m<n∧I m T' st') Q) T st): ∀n T st,I n T st→W P G N (.loop c) Q T st:=by
 intro n
 induction n using Nat.strongRecOn with
 |_ n ih=>
  intro T st h;refine Jd (qq (hstep n T st h) fun x T' st' hx=>?_)
  cases x with
  |nor=>
   obtain⟨m,hm,hI⟩:=hx;exact ih m hm T' st' hI
  |exit i=>exact hx
  |ret=>exact hx
theorem Qv{ops:Array Oper}(h:WR P G N ops.toList ops.toList (Q .nor) T st):W P G N (.region id ops false) Q T st:=by
 obtain⟨L,n,T',st',h1,h2⟩:=h;refine⟨L,n,.nor,T',st',?_,h2⟩;show(ob (F7 P G _ N ops.toList ops.toList T st) fun r=>some (Ex.nor,r))=_;rw[h1];rfl
theorem ve{ops:Array Oper}{pl:List (Nat×Oper×Nat)}(hp:VZ P ops.toList=some pl)(h:WD P G N ops.toList pl (Q .nor) T st [st]):W P G N (.region id ops true) Q T st:=by
 obtain⟨L,n,T',st',h1,h2⟩:=h;refine⟨L,n,.nor,T',st',?_,h2⟩;show(ob (VZ P ops.toList) fun pl=>ob (EL P G _ N ops.toList pl T st [st]) fun r=>some (Ex.nor,r))=_;rw[hp,Ql,h1];rfl

def QZ(K:List (Nat×AV))(T:Tr AV):Prop:= ∀t v,K.lookup t=some v→Y0 T t=v
theorem QZ.set{K:List (Nat×AV)}{T:Tr AV}(h:QZ K T)(d:Nat)(v:AV):QZ ((d,v)::K) (T.set d v):=by
 intro t u hl;rw[ZX]
 by_cases ht:t=d
 ·subst ht;rw[List.lookup_cons,beq_self_eq_true]at hl
  injection hl with hl
  rw[if_pos rfl,hl]
 ·rw[List.lookup_cons,beq_false_of_ne ht]at hl;rw[if_neg ht];exact h t u hl
theorem QZ.nil{T:Tr AV}:QZ [] T:=fun t v h=>(by cases h)
theorem QZ.cons{K:List (Nat×AV)}{T:Tr AV}{d:Nat}(hd:Y0 T d=v)(h:QZ K T):QZ ((d,v)::K) T:=by
 intro t u hl
 by_cases ht:t=d
 ·subst ht;rw[List.lookup_cons,beq_self_eq_true]at hl
  injection hl with hl
  rw[←hl];exact hd
 ·rw[List.lookup_cons,beq_false_of_ne ht]at hl;exact h t u hl
noncomputable def Jb(G:Env)(K:List (Nat×AV))(x:Operand):Option AV:=match x with
 |.tmp t=>K.lookup t
 |.const v=>ofConst v
 |.global g=>QN (G.g g) (some (.ptr g 0 0))
 |.func f=>some (.fn f [] [])
theorem QZ.sub{K L:List (Nat×AV)}{T:Tr AV}(h:QZ K T)(e:L.map (fun p=>K.lookup p.1)=L.map fun p=>some p.2):QZ L T:=by
 induction L with
 |nil=>exact .nil
 |cons p L ih=>
  injection e with e1 e2
  exact .cons (h _ _ e1) (ih e2)
theorem yT{p:Prop} [Decidable p](h:(!decide p)=false):p:=by simpa using h
theorem yF{p:Prop} [Decidable p](h:(!decide p)=true): ¬p:=by simpa using h
theorem QZ.QJ{K:List (Nat×AV)}{T:Tr AV}(h:QZ K T){x:Operand}{v:AV}(hx:Jb G K x=some v):QJ G T x=some v:=by
 cases x with
 |tmp t=>exact congrArg some (h t v hx)
 |const c=>exact hx
 |global g=>exact hx
 |func f=>exact hx
theorem QZ.row{K:List (Nat×AV)}{T:Tr AV}(h:QZ K T): ∀(l:List Operand) (vs:List AV),U0 (Jb G K) l=some vs→U0 (Proofs.YtiknomepbklibaaGreatDoor.QJ G T) l=some vs:=by
 intro l
 induction l with
 |nil=>intro vs hv;exact hv
 |cons x l ih=>
  intro vs hv;rw[JB]at hv ⊢;obtain⟨b,hb,hv⟩:=Qm hv;obtain⟨t,ht,hv⟩:=Qm hv;rw[h.QJ hb,Ql,ih t ht,Ql];exact hv
def U4(P:Program)(G:Env)(K:List (Nat×AV))(op:Op)(st:St)(v:AV)(st1:St):Prop:= ∀T,QZ K T→ ∀(d:Option Tmp) (ty:TypeId) (pos:String) (af:Array Edge) (g:Option (Nat×Bool)),∃L n,∀L' n',L≤L'→n≤n'→Rg P (QJ G T) (Uf P G L' n') ⟨d,op,ty,pos,af,g⟩ st=some (v,st1)
section ops
variable {ops rest:List Oper} {K:List (Nat×AV)} {R:Tr AV→St→Prop}
theorem Uo(h:R T st):WR P G N ops [] R T st:=⟨0,0,T,st,rfl,h⟩
theorem GL{o:Oper}(hw:U5 ops o T=true)(h: ∃L n,∀L' n',L≤L'→n≤n'→Rg P (QJ G T) (Uf P G L' n') o st=some (v,st1))(hd: ∀d,o.dst=some d→d<N)
  (hn:WR P G N ops rest R (match o.dst with|some d=>T.set d v|none=>T) st1):WR P G N ops (o::rest) R T st:=by
 obtain⟨L,n,h⟩:=h;obtain⟨L',n',T',st',h1,h2⟩:=hn;refine⟨max L L',max n n',T',st',?_,h2⟩;show(ob (UK P G _ ops o T st) fun r=>WV N o.dst r.1 T fun T=>tl (F7 P G _ N ops rest T r.2))=_
 have e:UK P G (Uf P G (max L L') (max n n')) ops o T st=some (v,st1):=by
  unfold UK;rw[hw,Q7];exact h _ _ (Nat.le_max_left _ _) (Nat.le_max_left _ _)
 rw[e,Ql];have h1':=Ga (Xx n' (max n n') L' (max L L') (Nat.le_max_right _ _) (Nat.le_max_right _ _)) _ _ _ _ h1
 cases hdst:o.dst with
 |none=>rw[hdst]at h1';exact h1'
 |some d=>
  rw[hdst]at h1';show QN (Nat.ble (d+1) N) (T.put d v _)=_;rw[Nat.ble_eq_true_of_le (hd d hdst),Tr.put_eq];exact h1'
theorem Es{d:Nat}{op:Op}{ty:TypeId}{pos:String}{af:Array Edge}(hK:QZ K T)(h:U4 P G K op st v st1)(hN:d<N)(hn: ∀T',QZ ((d,v)::K) T'→WR P G N ops rest R T' st1):
  WR P G N ops (⟨some d,op,ty,pos,af,none⟩::rest) R T st:=
 GL rfl (h T hK _ _ _ _ _) (fun e he=>by injection he with he;rw[←he];exact hN) (hn _ (hK.set d v))
theorem Sb{op:Op}{ty:TypeId}{pos:String}{af:Array Edge}(hK:QZ K T)(h:U4 P G K op st v st1)(hn:WR P G N ops rest R T st1):
  WR P G N ops (⟨none,op,ty,pos,af,none⟩::rest) R T st:=
 GL rfl (h T hK _ _ _ _ _) (fun e he=>by cases he) hn
end ops
end Go.Proofs.YtiknomepbklibaaGreatDoor
end

section

namespace Go.Proofs.YtiknomepbklibaaGreatDoor
open Go
variable {a b:Int} {f:FuncId} {k:IntKind} {l:List AV} {st1:St} {t yt:TypeId} {u v:AV} {x y:Operand}

variable {P:Program} {G:Env} {K:List (Nat×AV)} {st:St}
theorem U4.of{op:Op}(h: ∀T,QZ K T→ ∀(c:YQ) (d:Option Tmp) (ty:TypeId) (pos:String) (af:Array Edge) (g:Option (Nat×Bool)),Rg P (QJ G T) c ⟨d,op,ty,pos,af,g⟩ st=some (v,st1)):U4 P G K op st v st1:=
 fun T hT d ty pos af g=>⟨0,0,fun _ _ _ _=>h T hT _ d ty pos af g⟩
theorem Qg(hx:Jb G K x=some v):U4 P G K (.move x) st v st:=.of fun T hT c d ty pos af g=>by
 show ret (QJ G T x) st=_;rw[hT.QJ hx];rfl
theorem U6(hx:Jb G K x=some v):U4 P G K (.assign x) st v st:=.of fun T hT c d ty pos af g=>by
 show ret (QJ G T x) st=_;rw[hT.QJ hx];rfl
theorem zx{a b:Operand}{t:Bool}(hx:Jb G K x=some (.bool t))(ha:Jb G K a=some u)(hb:Jb G K b=some v):U4 P G K (.pick x a b) st (Qo t u v) st:=.of fun T hT c d ty pos af g=>by
 show(ob (QJ G T x) fun c=>(match c with
  |.bool t=>ret (Qo t (QJ G T a) (QJ G T b)) st
  |_=>none))=_
 rw[hT.QJ hx,Ql];show ret (Qo t (QJ G T a) (QJ G T b)) st=_;rw[hT.QJ ha,hT.QJ hb]
 cases t<;>rfl
theorem UO{op:BinOp}{w:AV}(hx:Jb G K x=some u)(hy:Jb G K y=some w)(h:b2 P op t u w=some v):U4 P G K (.binOp op t x y yt) st v st:=.of fun T hT c d ty pos af g=>by
 show ret (ob (QJ G T x) fun x=>ob (QJ G T y) fun y=>b2 P op t x y) st=_;rw[hT.QJ hx,hT.QJ hy,Ql,Ql,h];rfl
theorem WC(k:IntKind):OI k k=true:=decide_eq_true rfl
theorem XT{op:BinOp}(h1:op≠ .shl)(h2:op≠ .shr):b2 P op t (.int k a) (.int k b)=eW op k a b:=by
 cases op<;>first
  |exact absurd rfl h1
  |exact absurd rfl h2
  |(show QN (OI k k) _=_;rw[WC];rfl)
theorem js(hx:Jb G K x=some (.int k a))(hy:Jb G K y=some (.int k b)):U4 P G K (.binOp .lss t x y yt) st (.bool (decide (a<b))) st:=
 UO hx hy (by rw[XT QE QE];show some (AV.bool (BF a b))=_;rw[Zc])
theorem vz(hx:Jb G K x=some (.int k a))(hy:Jb G K y=some (.int k b)):U4 P G K (.binOp .gtr t x y yt) st (.bool (decide (b<a))) st:=
 UO hx hy (by rw[XT QE QE];show some (AV.bool (BF b a))=_;rw[Zc])
theorem LY(a b:Int):(!decide (a<b))=decide (b≤a):=by
 by_cases h:a<b
 ·rw[decide_eq_true h,decide_eq_false Qe];rfl
 ·rw[decide_eq_false h,decide_eq_true Qe];rfl
theorem vy(hx:Jb G K x=some (.int k a))(hy:Jb G K y=some (.int k b)):U4 P G K (.binOp .leq t x y yt) st (.bool (decide (a≤b))) st:=
 UO hx hy (by rw[XT QE QE];show some (AV.bool (!BF b a))=_;rw[Zc,LY])
theorem v7(hx:Jb G K x=some (.int k a))(hy:Jb G K y=some (.int k b)):U4 P G K (.binOp .geq t x y yt) st (.bool (decide (b≤a))) st:=
 UO hx hy (by rw[XT QE QE];show some (AV.bool (!BF a b))=_;rw[Zc,LY])
theorem Yu(a b:Int):FJ a b=decide (a=b):=by rw[ZB];exact Bool.beq_eq_decide_eq a b
theorem ju(hx:Jb G K x=some (.int k a))(hy:Jb G K y=some (.int k b)):U4 P G K (.binOp .eql t x y yt) st (.bool (decide (a=b))) st:=
 UO hx hy (by rw[XT QE QE];show some (AV.bool (FJ a b))=_;rw[Yu])
theorem Ra(hx:Jb G K x=some (.int k a))(hy:Jb G K y=some (.int k b)):U4 P G K (.binOp .neq t x y yt) st (.bool (!decide (a=b))) st:=
 UO hx hy (by rw[XT QE QE];show some (AV.bool (!FJ a b))=_;rw[Yu])
theorem wrap64{n:Int}(h1: -9223372036854775808≤n)(h2:n≤9223372036854775807):IntKind.i64.wrap n=n:=IntWalk.i64_in n Qe
theorem vA(hx:Jb G K x=some (.int .i64 a))(hy:Jb G K y=some (.int .i64 b))(h1: -9223372036854775808≤a+b)(h2:a+b≤9223372036854775807):U4 P G K (.binOp .add t x y yt) st (.int .i64 (a+b)) st:=
 UO hx hy (by rw[XT QE QE];show XN (XW .i64 (a+b)) (fun z=>some (AV.int .i64 z))=_;rw[Yr,UH,wrap64 h1 h2])
theorem jl(hx:Jb G K x=some (.int .i64 a))(hy:Jb G K y=some (.int .i64 b))(h1: -9223372036854775808≤a-b)(h2:a-b≤9223372036854775807):U4 P G K (.binOp .sub t x y yt) st (.int .i64 (a-b)) st:=
 UO hx hy (by rw[XT QE QE];show XN (XW .i64 (a-b)) (fun z=>some (AV.int .i64 z))=_;rw[Yr,UH,wrap64 h1 h2])
theorem Jm{a b:List Nat}(hx:Jb G K x=some (.str a))(hy:Jb G K y=some (.str b)):U4 P G K (.binOp .eql t x y yt) st (.bool (decide (a=b))) st:=
 UO hx hy (by show some (AV.bool (G0 a b))=_;rw[Xe])
theorem Bt{a b:List Nat}(hx:Jb G K x=some (.str a))(hy:Jb G K y=some (.str b)):U4 P G K (.binOp .neq t x y yt) st (.bool (!decide (a=b))) st:=
 UO hx hy (by show some (AV.bool (!G0 a b))=_;rw[Xe])
theorem Iq{b:Bool}(hx:Jb G K x=some (.bool b)):U4 P G K (.unOp .not t x) st (.bool (!b)) st:=.of fun T hT c d ty pos af g=>by
 show ret (ob (QJ G T x) fun x=>eS .not x) st=_;rw[hT.QJ hx];rfl
theorem vx(hx:Jb G K x=some v)(hv:(match v with|.ptr _ _ _=>true|.fn _ _ _=>true|_=>false)=true):U4 P G K (.nilCheck x) st v st:=.of fun T hT c d ty pos af g=>by
 show ret (ob (QJ G T x) fun v=>(match v with
  |.ptr c m off=>some (.ptr c m off)
  |.fn f a c=>some (.fn f a c)
  |_=>none)) st=_
 rw[hT.QJ hx,Ql]
 cases v<;>first|rfl|cases hv
theorem Ye{f c m off o:Nat}(ho:QK P t f=some o)(hx:Jb G K x=some (.ptr c m off)):U4 P G K (.fieldAddr t x f) st (.ptr c m (off+o)) st:=.of fun T hT cc d ty pos af g=>by
 show ret (ob (QJ G T x) fun x=>Ej P t x f) st=_;rw[hT.QJ hx,Ql];show ret (ob (QK P t f) fun o=>UB (off+o) fun z=>some (AV.ptr c m z)) st=_;rw[ho,Ql,Ji];rfl
theorem EM{f:Nat}(hx:Jb G K x=some u)(h:I6 P t u f=some v):U4 P G K (.field t x f) st v st:=.of fun T hT cc d ty pos af g=>by
 show ret (ob (QJ G T x) fun x=>I6 P t x f) st=_;rw[hT.QJ hx,Ql,h];rfl
theorem Rc{i:Nat}(hx:Jb G K x=some (.tup l))(h:nth l i=some v):U4 P G K (.extract x i) st v st:=.of fun T hT cc d ty pos af g=>by
 show ret (ob (QJ G T x) fun v=>(match v with
  |.tup l=>nth l i
  |_=>none)) st=_
 rw[hT.QJ hx,Ql];show ret (nth l i) st=_;rw[h];rfl
theorem Qb{i:Operand}{c m off len z z':Nat}{j:Nat}(he:U1 P t=some z)(hx:Jb G K x=some (.sl c m off len z'))(hi:Jb G K i=some (.int k (j:Int)))(hj:j<len):
  U4 P G K (.indexAddr t x i) st (.ptr c m (off+j *z)) st:=.of fun T hT cc d ty pos af g=>by
 show ret (ob (QJ G T x) fun x=>ob (QJ G T i) fun i=>Yj P t x i) st=_;rw[hT.QJ hx,hT.QJ hi,Ql,Ql];show ret (ob (Og (j:Int)) fun i=>QN (Nat.ble (i+1) len) (ob (U1 P t) fun z=>UB (off+i *z) fun o=>some (AV.ptr c m o))) st=_;show ret (QN (Nat.ble (j+1) len) (ob (U1 P t) fun z=>UB (off+j *z) fun o=>some (AV.ptr c m o))) st=_;rw[Nat.ble_eq_true_of_le hj,he];show ret (UB (off+j *z) fun o=>some (AV.ptr c m o)) st=_;rw[Ji];rfl
theorem Me{i:Operand}{l:List Nat}{j b:Nat}(ht:P.underlying t=some .string)(hx:Jb G K x=some (.str l))(hi:Jb G K i=some (.int k (j:Int)))(hj:l[j]? =some b):
  U4 P G K (.index t x i) st (.int .u8 (b:Int)) st:=.of fun T hT cc d ty pos af g=>by
 show ret (ob (QJ G T x) fun x=>ob (QJ G T i) fun i=>FF P t x i) st=_;rw[hT.QJ hx,hT.QJ hi,Ql,Ql];unfold FF;simp only[ht];show ret (ob (nth l j) fun b=>some (AV.int .u8 (Int.ofNat b))) st=_;rw[U8,hj];rfl
theorem Rx(ht:P.underlying t=some .string):Xc P [t]=false:=by unfold Xc;simp only[ht]
theorem MB{e:TypeId}(ht:P.underlying t=some (.slice e)):Xc P [t]=false:=by unfold Xc;simp only[ht]
theorem z7{tys:Array TypeId}{l:List Nat}(ht:P.underlying t=some .string)(htys:tys= #[t])(hx:Jb G K x=some (.str l)):
  U4 P G K (.call {callee:=.builtin .len,args:= #[x],argTypes:=tys}) st (.int .i64 (l.length:Int)) st:=.of fun T hT cc d ty pos af g=>by
 subst htys;show Qo (Xc P [t]) _ (ret (ob (QJ G T x) fun x=>Nr P [t] x) st)=_;rw[Rx ht,Qx,hT.QJ hx,Ql];unfold Nr;simp only[ht,Ji,Ur];rfl
def YB:AV→Option Nat
 |.nils=>some 0
 |.slz _ _ _ _ _=>some 0
 |.sl0 _ _ _=>some 0
 |.sl _ _ _ n _=>some n
 |_=>none
theorem Q8{tys:Array TypeId}{e:TypeId}{n:Nat}(ht:P.underlying t=some (.slice e))(htys:tys= #[t])(hx:Jb G K x=some u)(hn:YB u=some n):
  U4 P G K (.call {callee:=.builtin .len,args:= #[x],argTypes:=tys}) st (.int .i64 (n:Int)) st:=.of fun T hT cc d ty pos af g=>by
 subst htys;show Qo (Xc P [t]) _ (ret (ob (QJ G T x) fun x=>Nr P [t] x) st)=_;rw[MB ht,Qx,hT.QJ hx,Ql]
 cases u<;>simp only[YB]at hn<;>first|(cases hn;done)|skip
 all_goals
  injection hn with hn
  subst hn;unfold Nr;simp only[ht];rfl
theorem Qh{args:Array Operand}{tys:Array TypeId}(ha:U0 (Jb G K) args.toList=some l)(h:Ev P G f l st v st1):
  U4 P G K (.call {callee:=.value (.func f),args:=args,argTypes:=tys}) st v st1:=fun T hT d ty pos af g=>by
 obtain⟨L,n,h⟩:=h;refine⟨L,n,fun L' n' hL hn=>?_⟩
 show(ob (QJ G T (.func f)) fun v=>(match v with
  |.fn fid a cap=>ob (U0 (QJ G T) args.toList) fun l=>Uf P G L' n' fid (ZC a (ZC l cap)) st
  |_=>none))=_
 show(ob (U0 (QJ G T) args.toList) fun l=>Uf P G L' n' f (ZC [] (ZC l [])) st)=_;rw[hT.row _ _ ha,Ql,U7,U7,List.nil_append,List.append_nil];exact Xx n n' L L' hn hL _ _ _ _ h
theorem Xa{g:Operand}{args:Array Operand}{tys:Array TypeId}{a cap:List AV}(hg:Jb G K g=some (.fn f a cap))(ha:U0 (Jb G K) args.toList=some l)(h:Ev P G f (a++(l++cap)) st v st1):
  U4 P G K (.call {callee:=.value g,args:=args,argTypes:=tys}) st v st1:=fun T hT d ty pos af gg=>by
 obtain⟨L,n,h⟩:=h;refine⟨L,n,fun L' n' hL hn=>?_⟩
 show(ob (QJ G T g) fun v=>(match v with
  |.fn fid a cap=>ob (U0 (QJ G T) args.toList) fun l=>Uf P G L' n' fid (ZC a (ZC l cap)) st
  |_=>none))=_
 rw[hT.QJ hg,Ql];show(ob (U0 (QJ G T) args.toList) fun l=>Uf P G L' n' f (ZC a (ZC l cap)) st)=_;rw[hT.row _ _ ha,Ql,U7,U7];exact Xx n n' L L' hn hL _ _ _ _ h
theorem X4{first cap:Array Operand}{a c:List AV}(ha:U0 (Jb G K) first.toList=some a)(hc:U0 (Jb G K) cap.toList=some c):U4 P G K (.makeFunc (.func f) first cap) st (.fn f a c) st:=.of fun T hT cc d ty pos af g=>by
 show ret (ob (U0 (QJ G T) first.toList) fun l=>ob (U0 (QJ G T) cap.toList) fun r=>some (AV.fn f l r)) st=_;rw[hT.row _ _ ha,hT.row _ _ hc];rfl
theorem Qd(hx:Jb G K x=some u)(h:Jq P t u st.h.get=some v):U4 P G K (.load t x) st v st:=.of fun T hT cc d ty pos af g=>by
 show(ob (QJ G T x) fun x=>ret (Jq P t x st.h.get) st)=_;rw[hT.QJ hx,Ql,h];rfl
theorem Di{lo hi:Option Operand}(hx:Jb G K x=some u)(h: ∀T,QZ K T→VX P t u (QJ G T) lo hi=some v):U4 P G K (.slice t x lo hi none) st v st:=.of fun T hT cc d ty pos af g=>by
 show ret (ob (QJ G T x) fun x=>VX P t x (QJ G T) lo hi) st=_;rw[hT.QJ hx,Ql,h T hT];rfl
theorem Re{s d:TypeId}(hx:Jb G K x=some u)(h:DY P s d u st.h.get=some v):U4 P G K (.convert s d x) st v st:=.of fun T hT cc dd ty pos af g=>by
 show ret (ob (QJ G T x) fun x=>DY P s d x st.h.get) st=_;rw[hT.QJ hx,Ql,h];rfl

theorem xP{fn:Func}{c:Code}{N:Nat}{rs:List ResultVar}{args:List AV}{Q:AV→St→Prop}(hs:G.s f=none)(hf:P.funcs[f]? =some fn)(hb:fn.body=some c)(hN:fn.ntmps=N)(hr:fn.results.toList=rs)(hname:(fn.name== "runtime.NumGoroutine")=false)(hl:args.length≤N)
  (h: ∀T,(∀t,Y0 T t=(args[t]?).getD (.tup []))→W P G N c (fun x T st=>(x=.nor∨x=.ret)∧ ∃v,J9 P rs T st=some v∧Q v st) T st): ∃v st',Ev P G f args st v st'∧Q v st':=by
 obtain⟨T,hT1,hT2⟩:=GD args;obtain⟨L,n,x,T',st',h1,hx,v,h2,h3⟩:=h T hT2;refine⟨v,st',⟨L,n+1,?_⟩,h3⟩;show(Option.rec (ob (Nz P f) fun q=>QN (Nat.ble (Zl args) q.2.1) (Kn args fun T=>NC (codeF P G (Uf P G L n) q.2.1 L q.1 T st) fun T st=>ob (J9 P q.2.2 T st) fun v=>some (v,st))) (fun sm=>sm args st) (G.s f):Option (AV×St))=some (v,st');rw[hs];show(ob (Nz P f) fun q=>QN (Nat.ble (Zl args) q.2.1) (Kn args fun T=>NC (codeF P G (Uf P G L n) q.2.1 L q.1 T st) fun T st=>ob (J9 P q.2.2 T st) fun v=>some (v,st)))=some (v,st')
 have hfn:Nz P f=some (c,N,rs):=by
  unfold Nz;rw[hf];simp only[hb,hname,hN,hr];rfl
 rw[hfn,Ql,Ur,Nat.ble_eq_true_of_le hl,hT1,QO];show NC (codeF P G (Uf P G L n) N L c T st) _=_;rw[h1];rcases hx with rfl|rfl
 ·show ob (J9 P rs T' st') _=_;rw[h2];rfl
 ·show ob (J9 P rs T' st') _=_;rw[h2];rfl
end Go.Proofs.YtiknomepbklibaaGreatDoor
end

section

namespace Go.Proofs.YtiknomepbklibaaGreatDoor
open Go
variable {af:Array Edge} {c k m n off:Nat} {l l':List AV} {pos:String} {t ty:TypeId} {v:AV}

structure Mem(h0:Hp)(n0:Nat)(X:List Nat)(st:St)(M:List (Nat×Nat×List AV)):Prop where
 fresh:Qj st
 le:n0≤st.n
 base: ∀c,n0≤c→h0 c=none
 row: ∀c m l,(c,m,l)∈M→ ∃vs ms,st.h.get c=some (.row false ms)∧ms[m]? =some (l.length,vs,some l)
 lt: ∀c m l,(c,m,l)∈M→c<st.n
 own: ∀c m l,(c,m,l)∈M→n0≤c∨c∈X
 nodup:(M.map Prod.fst).Nodup
 J8: ∀c,c<n0→c∉X→st.h.get c=h0 c
structure Qt(st st':St):Prop where
 fresh:Qj st'
 le:st.n≤st'.n
 J8: ∀c,c<st.n→st'.h.get c=st.h.get c
theorem Qt.trans{a b c:St}(x:Qt a b)(y:Qt b c):Qt a c:=⟨y.fresh,Nat.le_trans x.le y.le,fun k hk=>by rw[y.J8 k (Nat.lt_of_lt_of_le hk x.le),x.J8 k hk]⟩
theorem Mem.start{st:St}(h:Qj st):Mem st.h.get st.n [] st []:=
 ⟨h,Nat.le_refl _,h,fun c m l h=>(by cases h),fun c m l h=>(by cases h),fun c m l h=>(by cases h),List.nodup_nil,fun _ _ _=>rfl⟩
section
variable {P:Program} {G:Env} {N:Nat} {h0:Hp} {n0:Nat} {X:List Nat} {st:St} {M:List (Nat×Nat×List AV)}
theorem Mem.qt{st0:St}(h:Mem st0.h.get st0.n [] st M):Qt st0 st:=⟨h.fresh,h.le,fun c hc=>h.J8 c hc QA⟩
theorem Mem.less(h:Mem h0 n0 X st M){M':List (Nat×Nat×List AV)}(hs:M'.Sublist M):Mem h0 n0 X st M':=
 ⟨h.fresh,h.le,h.base,fun c m l hm=>h.row c m l (hs.subset hm),fun c m l hm=>h.lt c m l (hs.subset hm),fun c m l hm=>h.own c m l (hs.subset hm),h.nodup.sublist (hs.map _),h.J8⟩
theorem Mem.quiet(h:Mem h0 n0 X st M){st':St}(q:Qt st st'):Mem h0 n0 X st' M:=
 ⟨q.fresh,Nat.le_trans h.le q.le,h.base,fun c m l hm=>by
  obtain⟨vs,ms,h1,h2⟩:=h.row c m l hm
  exact⟨vs,ms,by rw[q.J8 c (h.lt c m l hm)];exact h1,h2⟩,fun c m l hm=>Nat.lt_of_lt_of_le (h.lt c m l hm) q.le,h.own,h.nodup,fun c hc hx=>by rw[q.J8 c (Nat.lt_of_lt_of_le hc h.le)];exact h.J8 c hc hx⟩
theorem Mem.alloc(h:Mem h0 n0 X st M)(l:List AV):Mem h0 n0 X ⟨st.n+1,st.h.set st.n (.row false [(l.length,0,some l)])⟩ ((st.n,0,l)::M):=by
 have hg: ∀c,(st.h.set st.n (.row false [(l.length,0,some l)])).get c=if c=st.n then some (.row false [(l.length,0,some l)])else st.h.get c:=fun c=>Tr.VN _ _ _ _
 refine⟨fun c hc=>?_,Nat.le_succ_of_le h.le,h.base,fun c m l' hm=>?_,fun c m l' hm=>?_,fun c m l' hm=>?_,?_,fun c hc hx=>?_⟩
 ·have hc:st.n+1≤c:=hc;show(st.h.set st.n _).get c=none;rw[hg,if_neg Qe];exact h.fresh c Qe
 ·rcases List.mem_cons.1 hm with e|hm
  ·injection e with e1 e2
   injection e2 with e2 e3
   subst e1 e2 e3;exact⟨0,_,(hg _).trans (if_pos rfl),rfl⟩
  ·obtain⟨vs,ms,h1,h2⟩:=h.row c m l' hm;have:=h.lt c m l' hm;exact⟨vs,ms,by show(st.h.set st.n _).get c=_;rw[hg,if_neg Qe];exact h1,h2⟩
 ·rcases List.mem_cons.1 hm with e|hm
  ·injection e with e1 e2;subst e1;exact Nat.lt_succ_self _
  ·exact Nat.lt_succ_of_lt (h.lt c m l' hm)
 ·rcases List.mem_cons.1 hm with e|hm
  ·injection e with e1 e2;subst e1;exact .inl h.le
  ·exact h.own c m l' hm
 ·rw[List.map_cons];refine List.nodup_cons.2 ⟨fun hm=>?_,h.nodup⟩;obtain⟨⟨c,m,l'⟩,h1,h2⟩:=List.mem_map.1 hm;have:=h.lt c m l' h1;simp only at h2;omega
 ·show(st.h.set st.n _).get c=_;have:=h.le;rw[hg,if_neg Qe];exact h.J8 c hc hx
theorem CN{M:List (Nat×Nat×List AV)}(hk:M[k]? =some (c,m,l)):(M.set k (c,m,l')).map Prod.fst=M.map Prod.fst:=by
 apply List.ext_getElem?;intro i;rw[List.getElem?_map,List.getElem?_map,List.getElem?_set]
 by_cases h:k=i
 ·subst h;rw[if_pos rfl,hk];have:=(List.getElem?_eq_some_iff.1 hk).1;simp[this]
 ·rw[if_neg h]
theorem ER{M:List (Nat×Nat×List AV)}(hk:M[k]? =some (c,m,l))(hn:(M.map Prod.fst).Nodup){x:Nat×Nat×List AV}(hx:x∈M.set k (c,m,l')):
  x=(c,m,l')∨(x∈M∧x.1≠c):=by
 obtain⟨i,hi⟩:=List.getElem?_of_mem hx;rw[List.getElem?_set]at hi
 by_cases h:k=i
 ·subst h;have:=(List.getElem?_eq_some_iff.1 hk).1;simp[this]at hi;exact .inl hi.symm
 ·rw[if_neg h]at hi;refine .inr ⟨List.mem_of_getElem? hi,fun e=>h ?_⟩
  have h1:(M.map Prod.fst)[k]? =some c:=by rw[List.getElem?_map,hk];rfl
  have h2:(M.map Prod.fst)[i]? =some c:=by rw[List.getElem?_map,hi];simp[e]
  exact(List.getElem?_inj (List.getElem?_eq_some_iff.1 h1).1 hn).1 (h1.trans h2.symm)
theorem Mem.store(h:Mem h0 n0 X st M){w:AV}(hk:M[k]? =some (c,m,l))(hz:YM P t=some n)(hn:(Jn w).length=n)(hc:Vl Qu (Jn w)=true)(ho:Zo (Jn w) off l=some l'):
  ∃st1,EF P t (.ptr c m off) w st=some (.tup [],st1)∧Mem h0 n0 X st1 (M.set k (c,m,l'))∧st1.n=st.n:=by
 have hm:=List.mem_of_getElem? hk;obtain⟨vs,ms,h1,h2⟩:=h.row c m l hm;have hlen:l'.length=l.length:=(Vy _ _ _ _ ho).2.1
 have hr:rowOf st.h.get c m=some (l.length,vs,l,false,ms):=by
  unfold rowOf;rw[h1,Ql];show ob (nth ms m) _=_;rw[U8,h2];rfl
 have e: ∃ms',EF P t (.ptr c m off) w st=some (.tup [],⟨st.n,st.h.set c (.row false ms')⟩)∧ms'[m]? =some (l.length,vs,some l'):=by
  unfold EF;simp only[hr,Ql,hz,Ur,hn,Nat.beq_refl,QO,hc,ho,Bool.not_false];refine⟨vp (l.length,vs,some l') (ZA (vs+off) (vs+off+n) ms) m,by rw[Ub,Ub,UI],?_⟩;rw[Sk,List.getElem?_set_self];rw[JQ];exact(List.getElem?_eq_some_iff.1 h2).1
 obtain⟨ms',e1,e2⟩:=e
 have hg: ∀x,(st.h.set c (.row false ms')).get x=if x=c then some (.row false ms')else st.h.get x:=fun x=>Tr.VN _ _ _ _
 refine⟨_,e1,⟨fun x hx=>?_,h.le,h.base,fun x y z hm'=>?_,fun x y z hm'=>?_,fun x y z hm'=>?_,?_,fun x hx hX=>?_⟩,rfl⟩
 ·show(st.h.set c _).get x=none;have:=h.lt c m l hm;have hx:st.n≤x:=hx;rw[hg,if_neg Qe];exact h.fresh x hx
 ·rcases ER hk h.nodup hm' with e|⟨h3,h4⟩
  ·injection e with e1 e2
   injection e2 with e2 e3
   subst e1 e2 e3;exact⟨vs,ms',(hg _).trans (if_pos rfl),by rw[hlen];exact e2⟩
  ·obtain⟨vs',ms2,h5,h6⟩:=h.row x y z h3;exact⟨vs',ms2,by show(st.h.set c _).get x=_;rw[hg,if_neg h4];exact h5,h6⟩
 ·rcases ER hk h.nodup hm' with e|⟨h3,h4⟩
  ·injection e with e1 e2;subst e1;exact h.lt _ m l hm
  ·exact h.lt x y z h3
 ·rcases ER hk h.nodup hm' with e|⟨h3,h4⟩
  ·injection e with e1 e2;subst e1;exact h.own _ m l hm
  ·exact h.own x y z h3
 ·rw[CN hk];exact h.nodup
 ·show(st.h.set c _).get x=_
  have hxc:x≠c:=fun e=>by
   subst e;rcases h.own x m l hm with h5|h5
   ·omega
   ·exact hX h5
  rw[hg,if_neg hxc];exact h.J8 x hx hX
theorem Mem.load(h:Mem h0 n0 X st M)(hk:M[k]? =some (c,m,l))(hp:XY P t l off=some v):Jq P t (.ptr c m off) st.h.get=some v:=by
 obtain⟨vs,ms,h1,h2⟩:=h.row c m l (List.mem_of_getElem? hk);show ob (rowOf st.h.get c m) _=_;unfold rowOf;rw[h1,Ql];show ob (ob (nth ms m) _) _=_;rw[U8,h2];exact hp

variable {ops rest:List Oper} {K:List (Nat×AV)} {R:Tr AV→St→Prop} {T:Tr AV}
theorem Ln{d:Nat}(hK:QZ K T)(hM:Mem h0 n0 X st M)(hz:zeroOf P t=some l)(hN:d<N)
  (hn: ∀(c:Nat) T' st',QZ ((d,.ptr c 0 0)::K) T'→Mem h0 n0 X st' ((c,0,l)::M)→WR P G N ops rest R T' st'):WR P G N ops (⟨some d,.alloc t,ty,pos,af,none⟩::rest) R T st:=by
 refine Es (v:=.ptr st.n 0 0) (st1:=⟨st.n+1,st.h.set st.n (.row false [(l.length,0,some l)])⟩) hK (.of fun T hT c d ty pos af g=>?_) hN fun T' hT'=>hn st.n T' _ hT' (hM.alloc l);show FX P t st=_;unfold FX;rw[hz,Ql,Yc]
theorem Jv{d:Nat}{x:Operand}(hK:QZ K T)(hM:Mem h0 n0 X st M)(hx:Jb G K x=some v)(hc:Vl Qu (Jn v)=true)(hN:d<N)
  (hn: ∀(c:Nat) T' st',QZ ((d,.ptr c 0 0)::K) T'→Mem h0 n0 X st' ((c,0,Jn v)::M)→WR P G N ops rest R T' st'):WR P G N ops (⟨some d,.box t x,ty,pos,af,none⟩::rest) R T st:=by
 refine Es (v:=.ptr st.n 0 0) (st1:=⟨st.n+1,st.h.set st.n (.row false [((Jn v).length,0,some (Jn v))])⟩) hK (.of fun T hT c d ty pos af g=>?_) hN fun T' hT'=>hn st.n T' _ hT' (hM.alloc _);show(ob (QJ G T x) fun x=>RL x st)=_;rw[hT.QJ hx,Ql];unfold RL;rw[hc,QO,Yc]
theorem QS{x y:Operand}{w:AV}(hK:QZ K T)(hM:Mem h0 n0 X st M)(hx:Jb G K x=some (.ptr c m off))(hy:Jb G K y=some w)(hk:M[k]? =some (c,m,l))(hz:YM P t=some n)(hn:(Jn w).length=n)
  (hc:Vl Qu (Jn w)=true) (ho:Zo (Jn w) off l=some l') (hr: ∀st',Mem h0 n0 X st' (M.set k (c,m,l'))→WR P G N ops rest R T st'):WR P G N ops (⟨none,.store t x y,ty,pos,af,none⟩::rest) R T st:=by
 obtain⟨st1,h1,h2,_⟩:=hM.store hk hz hn hc ho;refine Sb (v:=.tup []) (st1:=st1) hK (.of fun T hT c d ty pos af g=>?_) (hr st1 h2);show(ob (QJ G T x) fun x=>ob (QJ G T y) fun y=>EF P t x y st)=_;rw[hT.QJ hx,hT.QJ hy,Ql,Ql,h1]
end
theorem QG{P:Program}{r:List AV}(h:tk P t=.agg n)(hl:Ew n (Ez off l) (fun r=>some (AV.agg r))=some (.agg r)):XY P t l off=some (.agg r):=by
 unfold XY;rw[h];exact hl
theorem Qf{P:Program}(h:tk P t=.one)(hl:nth l off=some v):XY P t l off=some v:=by
 unfold XY;rw[h];exact hl
end Go.Proofs.YtiknomepbklibaaGreatDoor
end

section

namespace Go.Proofs.YtiknomepbklibaaGreatDoor
open Go
variable {af:Array Edge} {d j t:Nat} {op:Op} {pol:Bool} {pos:String} {ty:TypeId}

variable {P:Program} {G:Env} {N:Nat} {st:St} {K:List (Nat×AV)} {T:Tr AV} {ops rest:List Oper} {R:Tr AV→St→Prop}
theorem xZ{x:Bool}{st1:St}(hK:QZ K T)(h:U4 P G K op st (.bool x) st1)(hN:d<N)(hn: ∀(b:Bool) T',x=b→QZ ((d,.bool b)::K) T'→WR P G N ops rest R T' st1):
 WR P G N ops (⟨some d,op,ty,pos,af,none⟩::rest) R T st:=Es hK h hN fun T' hT'=>hn x T' rfl hT'
theorem ZK{d:Option Nat}{b:Bool}(hK:QZ K T)(ht:UW ops j=some t)(hb:K.lookup t=some (.bool b)):U5 ops ⟨d,op,ty,pos,af,some (j,pol)⟩ T=(b==pol):=by
 unfold U5;simp only[ht];rw[show Y0 T t=.bool b from hK t _ hb]
 cases b<;>cases pol<;>rfl
theorem xB{v:AV}{st1:St}(hK:QZ K T)(ht:UW ops j=some t)(hb:K.lookup t=some (.bool pol))(h:U4 P G K op st v st1)(hN:d<N)
  (hn: ∀T',QZ ((d,v)::K) T'→WR P G N ops rest R T' st1):WR P G N ops (⟨some d,op,ty,pos,af,some (j,pol)⟩::rest) R T st:=
 GL (by rw[ZK hK ht hb];cases pol<;>rfl) (h T hK _ _ _ _ _) (fun e he=>by injection he with he;rw[←he];exact hN) (hn _ (hK.set d v))
theorem wZ{b:Bool}(hK:QZ K T)(ht:UW ops j=some t)(hb:K.lookup t=some (.bool b))(hne:(b==pol)=false)(hN:d<N)
  (hn: ∀T',QZ ((d,.tup [])::K) T'→WR P G N ops rest R T' st):WR P G N ops (⟨some d,op,ty,pos,af,some (j,pol)⟩::rest) R T st:=by
 obtain⟨L',n',T',st',h1,h2⟩:=hn _ (hK.set d (.tup []));refine⟨L',n',T',st',?_,h2⟩;show(ob (UK P G _ ops _ T st) fun r=>WV N (some d) r.1 T fun T=>tl (F7 P G _ N ops rest T r.2))=_;unfold UK;rw[ZK hK ht hb,hne,Qx,Ql];show QN (Nat.ble (d+1) N) (T.put d (.tup []) _)=_;rw[Nat.ble_eq_true_of_le hN,Tr.put_eq];exact h1
theorem jq{x y:Operand}{tys:Array TypeId}{a b:Int}{k:IntKind}(hx:Jb G K x=some (.int k a))(hy:Jb G K y=some (.int k b)):U4 P G K (.call {callee:=.builtin .max,args:= #[x,y],argTypes:=tys}) st (.int k (max a b)) st:=.of fun T hT cc d ty pos af g=>by
 show ret (ob (U0 (QJ G T) [x,y]) (wU true)) st=_;rw[JB,hT.QJ hx,Ql,JB,hT.QJ hy,Ql];show ret (some (AV.int k (Qo (BF a b) b a))) st=_;rw[Zc]
 by_cases h:a<b
 ·rw[decide_eq_true h,Q7,show max a b=b by omega];rfl
 ·rw[decide_eq_false h,Qx,show max a b=a by omega];rfl
theorem jo{x y:Operand}{tys:Array TypeId}{a b:Int}{k:IntKind}(hx:Jb G K x=some (.int k a))(hy:Jb G K y=some (.int k b)):U4 P G K (.call {callee:=.builtin .min,args:= #[x,y],argTypes:=tys}) st (.int k (min a b)) st:=.of fun T hT cc d ty pos af g=>by
 show ret (ob (U0 (QJ G T) [x,y]) (wU false)) st=_;rw[JB,hT.QJ hx,Ql,JB,hT.QJ hy,Ql];show ret (some (AV.int k (Qo (BF b a) b a))) st=_;rw[Zc]
 by_cases h:b<a
 ·rw[decide_eq_true h,Q7,show min a b=b by omega];rfl
 ·rw[decide_eq_false h,Qx,show min a b=a by omega];rfl
end Go.Proofs.YtiknomepbklibaaGreatDoor
end

section

namespace Go.Proofs.YtiknomepbklibaaGreatDoor
open Go
variable {j n t:Nat} {pol:Bool}

variable {P:Program} {G:Env} {N:Nat} {st:St} {K:List (Nat×AV)} {T:Tr AV} {ops:List Oper} {rest:List (Nat×Oper×Nat)} {R:Tr AV→St→Prop} {sn:List St}
def Yo(ops:List Oper)(q:Nat×Nat):Nat×Oper×Nat:=(q.1,(ops[q.1]?).getD ⟨none,.move (.tmp 0),0,"",#[],none⟩,q.2)
theorem YC{ops:List Oper}{i:Nat}{o:Oper}(ho:ops[i]? =some o)(r:List (Nat×Nat)):((i,n)::r).map (Yo ops)=(i,o,n)::r.map (Yo ops):=by
 rw[List.map_cons];unfold Yo;rw[ho];rfl
theorem QF{id:Nat}{ops:Array Oper}{Q:Ex→Tr AV→St→Prop}{l:List (Nat×Nat)}(hp:VZ P ops.toList=some (l.map (Yo ops.toList)))
 (h:WD P G N ops.toList (l.map (Yo ops.toList)) (Q .nor) T st [st]):W P G N (.region id ops true) Q T st:=ve hp h
theorem QH(h:R T st):WD P G N ops (([]:List (Nat×Nat)).map (Yo ops)) R T st sn:=⟨0,0,T,st,rfl,h⟩
theorem X1{i:Nat}{o:Oper}{v:AV}{st1:St}(hw:U5 ops o T=true)(h: ∃L n,∀L' n',L≤L'→n≤n'→Rg P (QJ G T) (Uf P G L' n') o st=some (v,st1))(ha:again P G o T v n sn.tail=true)(hd: ∀d,o.dst=some d→d<N)
  (hn:WD P G N ops rest R (match o.dst with|some d=>T.set d v|none=>T) st1 (Qo (Nat.beq (QI P o.op) 3) (st1::sn) sn)):WD P G N ops ((i,o,n)::rest) R T st sn:=by
 obtain⟨L,m,h⟩:=h;obtain⟨L',m',T',st',h1,h2⟩:=hn;refine⟨max L L',max m m',T',st',?_,h2⟩
 show(ob (UK P G _ ops o T st) fun r=>QN (Qo (U5 ops o T) (again P G o T r.1 n (List.rec [] (fun _ t _=>t) sn)) true)
  (WV N o.dst r.1 T fun T=>tl (EL P G _ N ops rest T r.2 (Qo (Nat.beq (QI P o.op) 3) (r.2::sn) sn))))=_
 have e:UK P G (Uf P G (max L L') (max m m')) ops o T st=some (v,st1):=by
  unfold UK;rw[hw,Q7];exact h _ _ (Nat.le_max_left _ _) (Nat.le_max_left _ _)
 rw[e,Ql,hw,Q7,CZ];show QN (again P G o T v n sn.tail) _=_;rw[ha,QO];have h1':=Gb (Xx m' (max m m') L' (max L L') (Nat.le_max_right _ _) (Nat.le_max_right _ _)) _ _ _ _ _ h1
 cases hdst:o.dst with
 |none=>rw[hdst]at h1';exact h1'
 |some d=>
  rw[hdst]at h1';show QN (Nat.ble (d+1) N) (T.put d v _)=_;rw[Nat.ble_eq_true_of_le (hd d hdst),Tr.put_eq];exact h1'
section
variable {r:List (Nat×Nat)} {i d:Nat} {op:Op} {ty:TypeId} {pos:String} {af:Array Edge} {v:AV} {st1:St}
theorem OS(ho:ops[i]? =some ⟨some d,op,ty,pos,af,none⟩)(hK:QZ K T)(h:U4 P G K op st v st1)(hk:Nat.beq (QI P op) 3=false)(hN:d<N)(hn: ∀T',QZ ((d,v)::K) T'→WD P G N ops (r.map (Yo ops)) R T' st1 sn):
  WD P G N ops (((i,0)::r).map (Yo ops)) R T st sn:=by
 rw[YC ho]
 exact X1 rfl (h T hK _ _ _ _ _) rfl (fun e he=>by injection he with he;rw[←he];exact hN) (by
  show WD P G N ops (r.map (Yo ops)) R _ st1 (Qo (Nat.beq (QI P op) 3) _ _)
  rw[hk];exact hn _ (hK.set d v))
theorem Lq(ho:ops[i]? =some ⟨some d,op,ty,pos,af,none⟩)(hK:QZ K T)(h:U4 P G K op st v st1)(hk:Nat.beq (QI P op) 3=true)(hN:d<N)(hn: ∀T',QZ ((d,v)::K) T'→WD P G N ops (r.map (Yo ops)) R T' st1 (st1::sn)):
  WD P G N ops (((i,0)::r).map (Yo ops)) R T st sn:=by
 rw[YC ho]
 exact X1 rfl (h T hK _ _ _ _ _) rfl (fun e he=>by injection he with he;rw[←he];exact hN) (by
  show WD P G N ops (r.map (Yo ops)) R _ st1 (Qo (Nat.beq (QI P op) 3) _ _)
  rw[hk];exact hn _ (hK.set d v))
theorem Jl{t:TypeId}{x:Operand}{u:AV}{s0 s1:St}(ho:ops[i]? =some ⟨some d,.load t x,ty,pos,af,none⟩)(hK:QZ K T)(hx:Jb G K x=some u)(h:Jq P t u st.h.get=some v)(h1:Jq P t u s1.h.get=some v)(he:KL v v=true)(hk:Nat.beq (QI P (.load t x)) 3=false)(hN:d<N)
  (hn: ∀T',QZ ((d,v)::K) T'→WD P G N ops (r.map (Yo ops)) R T' st (s0::s1::sn)):WD P G N ops (((i,1)::r).map (Yo ops)) R T st (s0::s1::sn):=by
 rw[YC ho]
 exact X1 rfl (Qd hx h T hK _ _ _ _ _) (by
  show Qo (Option.rec false (fun x=>Option.rec false (fun u=>KL u v) (Jq P t x s1.h.get)) (QJ G T x)) true false=true;rw[hK.QJ hx];show Qo (Option.rec false (fun u=>KL u v) (Jq P t u s1.h.get)) true false=true;rw[h1];show Qo (KL v v) true false=true
  rw[he];rfl) (fun e he=>by injection he with he;rw[←he];exact hN) (by
  show WD P G N ops (r.map (Yo ops)) R _ st (Qo (Nat.beq (QI P (.load t x)) 3) _ _)
  rw[hk];exact hn _ (hK.set d v))
theorem va{x:Bool}(ho:ops[i]? =some ⟨some d,op,ty,pos,af,none⟩)(hK:QZ K T)(h:U4 P G K op st (.bool x) st1)(hk:Nat.beq (QI P op) 3=false)(hN:d<N)(hn: ∀(b:Bool) T',x=b→QZ ((d,.bool b)::K) T'→WD P G N ops (r.map (Yo ops)) R T' st1 sn):
 WD P G N ops (((i,0)::r).map (Yo ops)) R T st sn:=OS ho hK h hk hN fun T' hT'=>hn x T' rfl hT'
theorem xC(ho:ops[i]? =some ⟨some d,op,ty,pos,af,some (j,pol)⟩)(hK:QZ K T)(ht:UW ops j=some t)(hb:K.lookup t=some (.bool pol))(h:U4 P G K op st v st1)(hk:Nat.beq (QI P op) 3=false)(hN:d<N)
  (hn: ∀T',QZ ((d,v)::K) T'→WD P G N ops (r.map (Yo ops)) R T' st1 sn):WD P G N ops (((i,0)::r).map (Yo ops)) R T st sn:=by
 rw[YC ho]
 exact X1 (by rw[ZK hK ht hb];cases pol<;>rfl) (h T hK _ _ _ _ _) rfl (fun e he=>by injection he with he;rw[←he];exact hN) (by
  show WD P G N ops (r.map (Yo ops)) R _ st1 (Qo (Nat.beq (QI P op) 3) _ _)
  rw[hk];exact hn _ (hK.set d v))
theorem vb(ho:ops[i]? =some ⟨some d,op,ty,pos,af,some (j,pol)⟩)(hK:QZ K T)(ht:UW ops j=some t)(hb:K.lookup t=some (.bool pol))(h:U4 P G K op st v st1)(hk:Nat.beq (QI P op) 3=true)(hN:d<N)
  (hn: ∀T',QZ ((d,v)::K) T'→WD P G N ops (r.map (Yo ops)) R T' st1 (st1::sn)):WD P G N ops (((i,0)::r).map (Yo ops)) R T st sn:=by
 rw[YC ho]
 exact X1 (by rw[ZK hK ht hb];cases pol<;>rfl) (h T hK _ _ _ _ _) rfl (fun e he=>by injection he with he;rw[←he];exact hN) (by
  show WD P G N ops (r.map (Yo ops)) R _ st1 (Qo (Nat.beq (QI P op) 3) _ _)
  rw[hk];exact hn _ (hK.set d v))
theorem ea{b:Bool}(ho:ops[i]? =some ⟨some d,op,ty,pos,af,some (j,pol)⟩)(hK:QZ K T)(ht:UW ops j=some t)(hb:K.lookup t=some (.bool b))(hne:(b==pol)=false)(hN:d<N)
  (hn: ∀T' sn',QZ ((d,.tup [])::K) T'→WD P G N ops (r.map (Yo ops)) R T' st sn'):WD P G N ops (((i,n)::r).map (Yo ops)) R T st sn:=by
 rw[YC ho];obtain⟨L',n',T',st',h1,h2⟩:=hn _ (Qo (Nat.beq (QI P op) 3) (st::sn) sn) (hK.set d (.tup []));refine⟨L',n',T',st',?_,h2⟩;show(ob (UK P G _ ops _ T st) fun x=>QN (Qo (U5 ops _ T) _ true) (WV N (some d) x.1 T fun T=>tl (EL P G _ N ops (r.map (Yo ops)) T x.2 (Qo (Nat.beq (QI P op) 3) (x.2::sn) sn))))=_;unfold UK;rw[ZK hK ht hb,hne,Qx,Ql,Qx,QO];show QN (Nat.ble (d+1) N) (T.put d (.tup []) _)=_;rw[Nat.ble_eq_true_of_le hN,Tr.put_eq];exact h1
end
end Go.Proofs.YtiknomepbklibaaGreatDoor
end

section

namespace Go.Proofs.YtiknomepbklibaaGreatDoor
open Go

variable {P:Program} {G:Env} {N:Nat} {st:St} {K:List (Nat×AV)} {T:Tr AV} {ops:List Oper} {r:List (Nat×Nat)} {R:Tr AV→St→Prop} {sn:List St} {h0:Hp} {n0:Nat} {X:List Nat} {M:List (Nat×Nat×List AV)}
theorem Wt{i d:Nat}{t ty:TypeId}{pos:String}{af:Array Edge}{l:List AV}(ho:ops[i]? =some ⟨some d,.alloc t,ty,pos,af,none⟩)(hK:QZ K T)(hM:Mem h0 n0 X st M)(hz:zeroOf P t=some l)(hN:d<N)
  (hn: ∀(c:Nat) T' st',QZ ((d,.ptr c 0 0)::K) T'→Mem h0 n0 X st' ((c,0,l)::M)→WD P G N ops (r.map (Yo ops)) R T' st' sn):WD P G N ops (((i,0)::r).map (Yo ops)) R T st sn:=by
 refine OS (v:=.ptr st.n 0 0) (st1:=⟨st.n+1,st.h.set st.n (.row false [(l.length,0,some l)])⟩) ho hK (.of fun T hT c d ty pos af g=>?_) rfl hN fun T' hT'=>hn st.n T' _ hT' (hM.alloc l);show FX P t st=_;unfold FX;rw[hz,Ql,Yc]
theorem Vt{i:Nat}{t ty:TypeId}{pos:String}{af:Array Edge}{x y:Operand}{w:AV}{k c m off n:Nat}{l l':List AV}(ho:ops[i]? =some ⟨none,.store t x y,ty,pos,af,none⟩)(hK:QZ K T)(hM:Mem h0 n0 X st M)(hx:Jb G K x=some (.ptr c m off))(hy:Jb G K y=some w)
  (hk:M[k]? =some (c,m,l)) (hz:YM P t=some n) (hn:(Jn w).length=n) (hc:Vl Qu (Jn w)=true) (hv:Zo (Jn w) off l=some l')
  (hr: ∀st',Mem h0 n0 X st' (M.set k (c,m,l'))→WD P G N ops (r.map (Yo ops)) R T st' (st'::sn)):WD P G N ops (((i,0)::r).map (Yo ops)) R T st sn:=by
 obtain⟨st1,h1,h2,_⟩:=hM.store hk hz hn hc hv;rw[YC ho]
 have hS:U4 P G K (.store t x y) st (.tup []) st1:=.of fun T hT c d ty pos af g=>by
  show(ob (QJ G T x) fun x=>ob (QJ G T y) fun y=>EF P t x y st)=_;rw[hT.QJ hx,hT.QJ hy,Ql,Ql,h1]
 exact X1 rfl (hS T hK _ _ _ _ _) rfl (fun e he=>by cases he) (hr st1 h2)
end Go.Proofs.YtiknomepbklibaaGreatDoor
end
end
