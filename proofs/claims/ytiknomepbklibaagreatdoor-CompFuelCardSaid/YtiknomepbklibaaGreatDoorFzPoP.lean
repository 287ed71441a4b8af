/-
  Facts on the program's types.
-/
import Derived.Test.YtiknomepbklibaaGreatDoorFzBdB
set_option maxRecDepth 100000
set_option maxHeartbeats 8000000
set_option linter.unnecessarySimpa false
set_option linter.unusedSimpArgs false
set_option linter.unusedVariables false
section
namespace Go.Proofs.YtiknomepbklibaaGreatDoor
open Go

theorem Hc:tk Tryz.prog 52=.one:=by kernel_rfl
theorem Hg:YH Tryz.prog 52=some 1:=by kernel_rfl
theorem FY:zeroOf Tryz.prog 52=some [.nilf]:=by kernel_rfl
end Go.Proofs.YtiknomepbklibaaGreatDoor
end
section
namespace Go.Proofs.YtiknomepbklibaaGreatDoor
open Go

theorem YD:tk Tryz.prog 93=.one:=by kernel_rfl
theorem J5:tk Tryz.prog 179=.one:=by kernel_rfl
theorem Xi:tk Tryz.prog 200=.one:=by kernel_rfl
end Go.Proofs.YtiknomepbklibaaGreatDoor
end
section
namespace Go.Proofs.YtiknomepbklibaaGreatDoor
open Go Go.RowKit
variable {a:Au}

def bC(l:List Bool):List (List AV):=l.map fun b=>[AV.bool b]
theorem Jw(l:List Bool):(bC l).length=l.length:=by simp[bC]
theorem VA{l:List Bool}{i:Nat}{b:Bool}(h:l[i]? =some b):(bC l)[i]? =some [AV.bool b]:=by rw[bC,List.getElem?_map,h];rfl
theorem XK(a b:List Bool):bC (a++b)=bC a++bC b:=by simp[bC]
theorem uW(l:List Bool): ∀cs∈bC l,cs.length=1:=by
 intro cs h;obtain⟨s,_,rfl⟩:=List.mem_map.1 h;rfl
def yp(F:Fp)(v:AV):Prop:= ∀c m o n y,v=.sl c m o n y→F c
theorem Acc.zL{n0 z:Nat}{A:QU}{kr:AV}{ls:List (List AV)}(hA:Acc n0 z A kr ls):yp (Xc A).F kr:=fun c m o n y e=>by
 cases hA with
 |none=>cases e
 |own h1 h2 h3=>injection e with e1 e2;subst e1;exact⟨_,_,List.mem_cons_self ..⟩
theorem YO.zL{A:QU}{kr:AV}{vs:List AV}(hA:YO A kr vs):yp (Xc A).F kr:=fun c m o n y e=>by
 cases hA with
 |none=>cases e
 |own h3=>injection e with e1 e2;subst e1;exact⟨_,_,List.mem_cons_self ..⟩
structure YN(h:Hp)(F:Fp)(vs:List AV)(LL:List (List Int)):Prop where
 ln:vs.length=LL.length
 at_: ∀(i:Nat) (s:List Int),LL[i]? =some s→ ∃v,vs[i]? =some v∧Ji h [] 1 (zC s) v∧Vh s∧yp F v
theorem YN.frame{h h':Hp}{F:Fp}{vs:List AV}{LL:List (List Int)}(e: ∀c,F c→h' c=h c)(H:YN h F vs LL):YN h' F vs LL:=
 ⟨H.ln,fun i s hi=>by
  obtain⟨v,h1,h2,h3,h4⟩:=H.at_ i s hi
  exact⟨v,h1,h2.frame fun c m o n y e'=>e c (h4 c m o n y e'),h3,h4⟩⟩
def E8(F:Fp)(vs:List AV)(LL:List (List Int)):Ob:=⟨F,fun h=>YN h F vs LL,fun _ _ e H=>H.frame e⟩
structure Xo(h:Hp)(F:Fp)(kn:AV)(vs:List AV)(LL:List (List Int)):Prop where
 rd:Ji h [] 1 (vs.map fun v=>[v]) kn
 vs:YN h F vs LL
 out:yp F kn
theorem Xo.frame{h h':Hp}{F:Fp}{kn:AV}{vs:List AV}{LL:List (List Int)}(e: ∀c,F c→h' c=h c)(H:Xo h F kn vs LL):Xo h' F kn vs LL:=
 ⟨H.rd.frame fun c m o n y e'=>e c (H.out c m o n y e'),H.vs.frame e,H.out⟩
def Bu(F:Fp)(kn:AV)(vs:List AV)(LL:List (List Int)):Ob:=⟨F,fun h=>Xo h F kn vs LL,fun _ _ e H=>H.frame e⟩
theorem Xo.r{h:Hp}{F:Fp}{kn:AV}{vs:List AV}{LL:List (List Int)}(H:Xo h F kn vs LL):Lb h LL kn (vs.map fun v=>[v]):=by
 refine⟨H.rd,by rw[List.length_map];exact H.vs.ln,fun i s hi=>?_⟩;obtain⟨v,k1,k2,k3,_⟩:=H.vs.at_ i s hi;exact⟨[v],by rw[List.getElem?_map,k1];rfl,v,rfl,k2,k3⟩
theorem Xo.len{h:Hp}{F:Fp}{kn:AV}{vs:List AV}{LL:List (List Int)}(H:Xo h F kn vs LL):Y8 kn=some LL.length:=H.r.len
section
variable {st0 st:St} {X0:Fp} {L A B M:QU} {Os:List Ob} {F:Fp} {vs:List AV} {LL:List (List Int)} {kr kn:AV} {row:List Int}
theorem Qk.ak{A B:QU}(H:Qk st0 X0 st (L++(A++B)) Os):Qk st0 X0 st (A++(L++B)) Os:=H.perm (by rw[←List.append_assoc,←List.append_assoc];exact List.perm_append_comm.append_right B)
theorem Qk.Vv(B:Qk st0 X0 st M Os):Qk st0 X0 st M (E8 Xv [] []::Os):=
 B.new ⟨B.fresh,Nat.le_refl _,fun _ _=>rfl⟩ ⟨rfl,fun i s hi=>by simp at hi⟩ fun c hc=>hc.elim
theorem Qk.Z5(H:Qk st0 X0 st (L++(A++B)) (E8 F vs LL::Os)){n0:Nat}(hA:Acc n0 1 A kr (zC row))(hz:Vh row): ∃F',Qk st0 X0 st (L++B) (E8 F' (vs++[kr]) (LL++[row])::Os):=by
 have hr:Ji st.h.get [] 1 (zC row) kr:=Mem.Yx H.mem hA;have hin:=hA.zL;have B1:=H.ak.freeze (o:=⟨(Xc A).F,fun h=>Ji h [] 1 (zC row) kr,fun h h' e r=>r.frame fun c m o n y e'=>e c (hin c m o n y e')⟩) hr (fun c hc=>hc);refine⟨fun c=>(Xc A).F c∨F c,B1.join (fun h1 h2=>⟨by rw[List.length_append,List.length_append,h2.ln];rfl,fun i s hi=>?_⟩) fun c hc=>hc⟩
 by_cases hl:i<LL.length
 ·rw[List.getElem?_append_left hl]at hi;obtain⟨v,k1,k2,k3,k4⟩:=h2.at_ i s hi;exact⟨v,by rw[List.getElem?_append_left (by rw[h2.ln];exact hl)];exact k1,k2,k3,fun c m o n y e=>.inr (k4 c m o n y e)⟩
 ·have hlt:=(List.getElem?_eq_some_iff.1 hi).1;rw[List.length_append,List.length_singleton]at hlt
  have hl:i=LL.length:=by omega
  subst hl;rw[List.getElem?_append_right (Nat.le_refl _),Nat.sub_self]at hi
  injection hi with hi
  subst hi;exact⟨kr,by rw[List.getElem?_append_right (by rw[h2.ln];exact Nat.le_refl _),h2.ln,Nat.sub_self];rfl,h1,hz,fun c m o n y e=>.inl (hin c m o n y e)⟩
theorem Qk.GC(H:Qk st0 X0 st (L++(A++B)) (E8 F vs LL::Os))(hA:YO A kn vs): ∃F',Qk st0 X0 st (L++B) (Bu F' kn vs LL::Os):=by
 have hr:Ji st.h.get [] 1 (vs.map fun v=>[v]) kn:=hA.rd fun c m l hm=>H.row c m l (by simp[hm]);have hin:=hA.zL;have B1:=H.ak.freeze (o:=⟨(Xc A).F,fun h=>Ji h [] 1 (vs.map fun v=>[v]) kn,fun h h' e r=>r.frame fun c m o n y e'=>e c (hin c m o n y e')⟩) hr (fun c hc=>hc);refine⟨fun c=>(Xc A).F c∨F c,B1.join (fun h1 h2=>⟨h1,⟨h2.ln,fun i s hi=>?_⟩,fun c m o n y e=>.inl (hin c m o n y e)⟩) fun c hc=>hc⟩;obtain⟨v,k1,k2,k3,k4⟩:=h2.at_ i s hi;exact⟨v,k1,k2,k3,fun c m o n y e=>.inr (k4 c m o n y e)⟩
end
def Pe(h:Hp)(F:Fp)(dp:Nat)(a:Au):Prop:=
 ∃(ka kr:AV) (sp:Nat) (F1:Fp) (S:UG) (roots:List Nat),Q0 h dp 0 [ka,kr,.ptr sp 0 0]∧F dp∧Ji h [] 1 (bC a.acc) ka∧yp F ka∧Ji h [] 1 (zC (roots.map fun r=>((r:Nat):Int))) kr∧yp F kr∧Ap h F1 sp a.tr S∧(∀c,F1 c→F c)∧Xg a.tr S∧Zr a∧roots.length=a.n∧
  ∀(s r:Nat),roots[s]? =some r→r<S.length∧a.nx[s]? =some (WQ a.tr S r)
theorem Pe.frame{h h':Hp}{F:Fp}{dp:Nat}{a:Au}(e: ∀c,F c→h' c=h c)(H:Pe h F dp a):Pe h' F dp a:=by
 obtain⟨ka,kr,sp,F1,S,roots,h1,h2,h3,h4,h5,h6,h7,h8,h9⟩:=H;exact⟨ka,kr,sp,F1,S,roots,h1.frame (e dp h2),h2,h3.frame fun c m o n y e'=>e c (h4 c m o n y e'),h4,h5.frame fun c m o n y e'=>e c (h6 c m o n y e'),h6,h7.frame fun c hc=>e c (h8 c hc),h8,h9⟩
def FG(F:Fp)(dp:Nat)(a:Au):Ob:=⟨F,fun h=>Pe h F dp a,fun _ _ e H=>H.frame e⟩
structure UY(st:St)(F:Fp)(dp:Nat)(a:Au):Prop where
 at_:Pe st.h.get F dp a
 hi: ∀c,F c→c<st.n
theorem UY.q{st st':St}{F:Fp}{dp:Nat}{a:Au}(hD:UY st F dp a)(q:Qt st st'):UY st' F dp a:=⟨hD.at_.frame fun c hc=>q.J6 c (hD.hi c hc),fun c hc=>Nat.lt_of_lt_of_le (hD.hi c hc) q.le⟩
theorem UY.wf{st:St}{F:Fp}{dp:Nat}(hD:UY st F dp a):Zr a:=by
 obtain⟨_,_,_,_,_,_,_,_,_,_,_,_,_,_,_,h,_⟩:=hD.at_;exact h
theorem Qk.MV{st0 st:St}{X0 F:Fp}{M:QU}{Os:List Ob}{dp:Nat}(B:Qk st0 X0 st M Os){k:Nat}(hk:Os[k]? =some (FG F dp a)):UY st F dp a:=⟨B.at_ hk,B.Yu hk⟩
theorem Zr.AQ(W:Zr a): ∀r∈a.nx,Vh r:=fun r hr z hz=>by
 obtain⟨_,h⟩:=W.row r hr;have:=h z hz;have:=W.most;omega
end Go.Proofs.YtiknomepbklibaaGreatDoor
end
section
namespace Go.Proofs.YtiknomepbklibaaGreatDoor
open Go Go.RowKit

def UW(h:Hp)(F:Fp)(z:Nat)(ks:AV)(ls:List (List AV)):Prop:= ∃A,Acc 0 z A ks ls∧(∀c m l,(c,m,l)∈A→Q0 h c m l∧F c)
def Wj(F:Fp)(z:Nat)(ks:AV)(ls:List (List AV)):Ob:=⟨F,fun h=>UW h F z ks ls,fun h h' e H=>by
 obtain⟨A,h1,h2⟩:=H
 exact⟨A,h1,fun c m l hm=>⟨(h2 c m l hm).1.frame (e c (h2 c m l hm).2),(h2 c m l hm).2⟩⟩⟩
theorem MO{n0 z:Nat}{A:QU}{ks:AV}{ls:List (List AV)}(hA:Acc n0 z A ks ls):(A.map Prod.fst).Nodup:=by cases hA<;>simp
section
variable {st0 st:St} {X0 F:Fp} {M A:QU} {Os:List Ob} {z:Nat} {ks:AV} {ls:List (List AV)}
theorem UW.rd{h:Hp}(H:UW h F z ks ls):Ji h [] z ls ks:=by
 obtain⟨A,h1,h2⟩:=H
 cases h1 with
 |none=>exact .nil _ _ _
 |own k1 k2 k3=>exact Ji.own (h2 _ _ _ (List.mem_cons_self ..)).1 k2 QA Qe
theorem UW.len{h:Hp}(H:UW h F z ks ls):Y8 ks=some ls.length:=by obtain⟨A,h1,_⟩:=H;exact h1.len
theorem UW.cell{h:Hp}(H:UW h F z ks ls):Qu ks=true:=by obtain⟨A,h1,_⟩:=H;exact h1.cell
theorem Qk.Bd(B:Qk st0 X0 st M (Wj F z ks ls::Os)): ∃A,Acc 0 z A ks ls∧Qk st0 X0 st (A++M) Os:=by
 obtain⟨A,h1,h2⟩:=B.obj _ (List.mem_cons_self ..);have B1:=B.xT (R:=A) (o':=⟨Xv,fun _=>True,fun _ _ _ h=>h⟩) h2 (MO h1) trivial (fun c hc=>hc.elim) (fun c m l _ hc=>hc);exact⟨A,h1,B1.Nb (.cons _ (.refl _))⟩
theorem Qk.V9(B:Qk st0 X0 st (A++M) Os)(hA:Acc 0 z A ks ls): ∃F',Qk st0 X0 st M (Wj F' z ks ls::Os):=
 ⟨(Xc A).F,B.freeze (o:=Wj (Xc A).F z ks ls) ⟨A,hA,fun c m l hm=>⟨B.row c m l (by simp[hm]),m,l,hm⟩⟩ fun c hc=>hc⟩
end
end Go.Proofs.YtiknomepbklibaaGreatDoor
end
section
namespace Go.Proofs.YtiknomepbklibaaGreatDoor
open Go Go.RowKit
variable {l:Nat} {st:St}

def Yd(mp l:Nat)(o:Bool):Ob:=⟨fun c=>c=mp,fun h=>Q0 h mp 0 [.int .i64 (l:Nat),.bool o],fun _ _ e H=>H.frame (e mp rfl)⟩
theorem Qk.Hi(hf:Qj st){c m:Nat}{l:List AV}(h:Q0 st.h.get c m l):Qk st (fun x=>x=c) st [(c,m,l)] []:=
 ⟨hf,Nat.le_refl _,fun c' m' l' h'=>(by injection List.mem_singleton.1 h' with e1 e2;injection e2 with e2 e3;subst e1 e2 e3;exact h),List.nodup_cons.2 ⟨by simp,List.nodup_nil⟩,fun c' m' l' h'=>(by injection List.mem_singleton.1 h' with e1 e2;exact .inr e1),fun o h=>(by cases h),fun o h=>(by cases h),.nil,fun o h=>(by cases h),fun _ _ _=>rfl⟩
def Br(l:Nat)(o:Bool)(n:Nat):Bool:= !o&&decide (n≤l)
def UP(l:Nat)(o:Bool)(n:Nat):Nat:=if o then l else l-n
def Zo(l:Nat)(o:Bool)(n:Nat):Bool:=o||decide (l<n)
theorem Sz{n:Nat}(h:n≤l):Br l false n=true:=by simp[Br,h]
theorem OY(l n:Nat):UP l false n=l-n:=rfl
theorem Hv{n:Nat}(h:n≤l):Zo l false n=false:=by simp[Zo];omega

theorem S0(hf:Qj st)(n:Int): ∃v st',Ev Tryz.prog Q4 11 [iZ n] st v st'∧ ∃mp,v=.ptr mp 0 0∧st.n≤mp∧Q0 st'.h.get mp 0 [iZ (n.toNat:Nat),.bool false]∧Qt st st':=by
 refine JF Tryz.func11 Tryz.ntmps11 fun T K=>?_;have M:=Mem.start hf;refine Qc 2 K M ?_;intro _ K;refine p1 K (qW rfl rfl) fun _ K=>?_;refine au 3 K M ?_;intro c6 _ _ K _ M;refine Qc 0 K M ?_;refine⟨c6,rfl,(M.own c6 0 _ (List.mem_cons_self ..)).resolve_right QA,?_,M.qt⟩;have hr9:=M.UX (k:=0) rfl
 rwa [show max n 0=((n.toNat:Nat):Int) by omega]at hr9

theorem zB(hf:Qj st){mp:Nat}{o:Bool}(hr:Q0 st.h.get mp 0 [iN l,.bool o]): ∃v st',Ev Tryz.prog Q4 88 [.ptr mp 0 0] st v st'∧v=.bool o∧Qt st st':=by
 refine JF Tryz.func88 Tryz.ntmps88 fun T K=>?_;have M:=Mem.start hf;refine Qc 2 K M ?_;intro _ K;refine p1 K (Yp Ws rfl rfl) fun _ K=>?_;refine Qc 4 K M ?_;intro _ K;refine pg K rfl rfl (Qd rfl (Qz (M.JG QA hr.Jd) (Qf Jy rfl))) fun _ K=>?_;refine Qc 2 K M ?_;exact⟨rfl,M.qt⟩

theorem OX(hf:Qj st){mp:Nat}{o:Bool}(hr:Q0 st.h.get mp 0 [.int .i64 (l:Nat),.bool o])(hl:l≤9223372036854775807)(n:Nat)(hn:n≤9223372036854775807): ∃v st',Ev Tryz.prog Q4 62 [.ptr mp 0 0,.int .i64 (n:Nat)] st v st'∧v=.bool (Br l o n)∧(Yd mp (UP l o n) (Zo l o n)).H st'.h.get∧UH (fun c=>c=mp) st st':=by
 have B:=Qk.Hi hf hr;refine B6 rfl Tryz.func62 rfl Tryz.ntmps62 rfl fun T hT=>?_;have K:QY [(0,_),(1,_)] T:=(.cons (hT 0) (.cons (hT 1) .nil));have M:=B.mem;refine Qc 3 K M ?_;intro _ K;refine Um K (Qg rfl) rfl (fun _ e8 K=>?_) fun _ e8 K=>?_
 ·refine Qc 1 K M ?_;intro _ K;obtain⟨v10,st10,ev10,rfl,q10⟩:=zB M.fresh (M.UX (k:=0) rfl);refine pg K rfl rfl (Qh rfl ev10) fun _ K=>?_;replace M:=M.quiet q10;refine Qc 2 K M ?_;intro _ K;refine Qq (K.QI rfl) (fun h5=>?_) (fun h5=>?_)
  ·have hb5:=h5;refine Qc 1 K M ?_;refine⟨congrArg AV.bool ?_,?_,(B.step M).JM⟩
   ·clear M B hr K hT
    cases o<;>simp_all [Br]<;>omega
   ·have hr9:=M.UX (k:=0) rfl
    have e9:([.int .i64 (UP l o n:Nat),.bool (Zo l o n)]:List AV)=[.int .i64 (l:Nat),.bool o]:=by
     clear M B hr K hT hr9
     cases o<;>simp_all [UP,Zo]<;>omega
    show Q0 _ mp 0 [.int .i64 (UP l o n:Nat),.bool (Zo l o n)];rw[e9];exact hr9
  have hb5:=h5;refine Qc 7 K M ?_;intro _ K;refine JP K rfl (fun h12=>?_) fun h12=>?_
  ·refine au 9 K M ?_;intro _ _ K _ M;refine Qc 0 K M ?_;refine⟨congrArg AV.bool ?_,?_,(B.step M).JM⟩
   ·clear M B hr K hT
    cases o<;>simp_all [Br]<;>omega
   ·have hr9:=M.UX (k:=0) rfl
    have e9:([.int .i64 (UP l o n:Nat),.bool (Zo l o n)]:List AV)=[.int .i64 0,.bool true]:=by
     clear M B hr K hT hr9
     cases o<;>simp_all [UP,Zo]<;>omega
    show Q0 _ mp 0 [.int .i64 (UP l o n:Nat),.bool (Zo l o n)];rw[e9];exact hr9
  refine au 10 K M ?_;intro _ _ K _ M;refine Qc 0 K M ?_;refine⟨congrArg AV.bool ?_,?_,(B.step M).JM⟩
  ·clear M B hr K hT
   cases o<;>simp_all [Br]<;>omega
  ·have hr9:=M.UX (k:=0) rfl
   have e9:([.int .i64 (UP l o n:Nat),.bool (Zo l o n)]:List AV)=[.int .i64 ((((l:Nat):Int)-((n:Nat):Int))),.bool o]:=by
    clear M B hr K hT hr9
    cases o<;>simp_all [UP,Zo]<;>omega
   show Q0 _ mp 0 [.int .i64 (UP l o n:Nat),.bool (Zo l o n)];rw[e9];exact hr9
 refine Qc 6 K M ?_;refine⟨congrArg AV.bool ?_,?_,(B.step M).JM⟩
 ·clear M B hr K hT
  cases o<;>simp_all [Br]<;>omega
 ·have hr9:=M.UX (k:=0) rfl
  have e9:([.int .i64 (UP l o n:Nat),.bool (Zo l o n)]:List AV)=[.int .i64 (l:Nat),.bool o]:=by
   clear M B hr K hT hr9
   cases o<;>simp_all [UP,Zo]<;>omega
  show Q0 _ mp 0 [.int .i64 (UP l o n:Nat),.bool (Zo l o n)];rw[e9];exact hr9
end Go.Proofs.YtiknomepbklibaaGreatDoor
end
section
namespace Go.Proofs.YtiknomepbklibaaGreatDoor
open Go Go.RowKit
variable {l mp:Nat} {st:St}

theorem CC(hf:Qj st)(n:Int): ∃v st',Ev Tryz.prog Q4 46 [iZ n] st v st'∧ ∃mp,v=.ptr mp 0 0∧st.n≤mp∧Q0 st'.h.get mp 0 [iZ (n.toNat:Nat),.bool false]∧Qt st st':=by
 refine JF Tryz.func46 Tryz.ntmps46 fun T K=>?_;have M:=Mem.start hf;refine Qc 2 K M ?_;intro _ K;refine p1 K (qW rfl rfl) fun _ K=>?_;refine au 3 K M ?_;intro c6 _ _ K _ M;refine Qc 0 K M ?_;refine⟨c6,rfl,(M.own c6 0 _ (List.mem_cons_self ..)).resolve_right QA,?_,M.qt⟩;have hr9:=M.UX (k:=0) rfl
 rwa [show max 0 n=((n.toNat:Nat):Int) by omega]at hr9

theorem Lz(hf:Qj st){o:Bool}(hr:Q0 st.h.get mp 0 [.int .i64 (l:Nat),.bool o])(hl:l≤9223372036854775807)(n:Nat)(hn:n≤9223372036854775807): ∃v st',Ev Tryz.prog Q4 72 [.ptr mp 0 0,.int .i64 (n:Nat)] st v st'∧v=.bool (Br l o n)∧(Yd mp (UP l o n) (Zo l o n)).H st'.h.get∧UH (fun c=>c=mp) st st':=by
 have B:=Qk.Hi hf hr;refine B6 rfl Tryz.func72 rfl Tryz.ntmps72 rfl fun T hT=>?_;have K:QY [(0,_),(1,_)] T:=(.cons (hT 0) (.cons (hT 1) .nil));have M:=B.mem;refine Qc 3 K M ?_;intro _ K;refine Um K (Qg rfl) rfl (fun _ e7 K=>?_) fun _ e7 K=>?_
 ·refine Qc 5 K M ?_;intro _ K;refine Qq (K.QI rfl) (fun h12=>?_) (fun h12=>?_)
  ·have hb12:=h12;refine Qc 1 K M ?_;refine⟨congrArg AV.bool ?_,?_,(B.step M).JM⟩
   ·clear M B hr K hT
    cases o<;>simp_all [Br]<;>omega
   ·have hr9:=M.UX (k:=0) rfl
    have e9:([.int .i64 (UP l o n:Nat),.bool (Zo l o n)]:List AV)=[.int .i64 (l:Nat),.bool o]:=by
     clear M B hr K hT hr9
     cases o<;>simp_all [UP,Zo]<;>omega
    show Q0 _ mp 0 [.int .i64 (UP l o n:Nat),.bool (Zo l o n)];rw[e9];exact hr9
  have hb12:=h12;refine Qc 6 K M ?_;intro _ K;refine JP K rfl (fun h18=>?_) fun h18=>?_
  ·refine au 9 K M ?_;intro _ _ K _ M;refine Qc 0 K M ?_;refine⟨congrArg AV.bool ?_,?_,(B.step M).JM⟩
   ·clear M B hr K hT
    cases o<;>simp_all [Br]<;>omega
   ·have hr9:=M.UX (k:=0) rfl
    have e9:([.int .i64 (UP l o n:Nat),.bool (Zo l o n)]:List AV)=[.int .i64 0,.bool true]:=by
     clear M B hr K hT hr9
     cases o<;>simp_all [UP,Zo]<;>omega
    show Q0 _ mp 0 [.int .i64 (UP l o n:Nat),.bool (Zo l o n)];rw[e9];exact hr9
  refine au 11 K M ?_;intro _ _ K _ M;refine Qc 0 K M ?_;refine⟨congrArg AV.bool ?_,?_,(B.step M).JM⟩
  ·clear M B hr K hT
   cases o<;>simp_all [Br]<;>omega
  ·have hr9:=M.UX (k:=0) rfl
   have e9:([.int .i64 (UP l o n:Nat),.bool (Zo l o n)]:List AV)=[.int .i64 ((((l:Nat):Int)-((n:Nat):Int))),.bool o]:=by
    clear M B hr K hT hr9
    cases o<;>simp_all [UP,Zo]<;>omega
   show Q0 _ mp 0 [.int .i64 (UP l o n:Nat),.bool (Zo l o n)];rw[e9];exact hr9
 refine Qc 7 K M ?_;refine⟨congrArg AV.bool ?_,?_,(B.step M).JM⟩
 ·clear M B hr K hT
  cases o<;>simp_all [Br]<;>omega
 ·have hr9:=M.UX (k:=0) rfl
  have e9:([.int .i64 (UP l o n:Nat),.bool (Zo l o n)]:List AV)=[.int .i64 (l:Nat),.bool o]:=by
   clear M B hr K hT hr9
   cases o<;>simp_all [UP,Zo]<;>omega
  show Q0 _ mp 0 [.int .i64 (UP l o n:Nat),.bool (Zo l o n)];rw[e9];exact hr9

theorem CB(hf:Qj st)(hr:Q0 st.h.get mp 0 [.int .i64 (l:Nat),.bool false])(hl:l≤9223372036854775807)(n:Nat)(hn:n≤l): ∃v st',Ev Tryz.prog Q4 72 [.ptr mp 0 0,.int .i64 (n:Nat)] st v st'∧v=.bool true∧(Yd mp (l-n) false).H st'.h.get∧UH (fun c=>c=mp) st st':=by
 obtain⟨v,st',h1,h2,h3,h4⟩:=Lz hf hr hl n Qe;exact⟨v,st',h1,by rw[h2,Sz hn],by rw[Hv hn]at h3;exact h3,h4⟩

theorem VI(hf:Qj st)(hr:Q0 st.h.get mp 0 [iN l,.bool false])(hl1:1≤l)(hl:l≤9223372036854775807)(n:Nat): ∃v st',Ev Tryz.prog Q4 44 [.ptr mp 0 0,iN n] st v st'∧v=.bool (decide ((n:Int)≤400))∧(Yd mp (l-1) false).H st'.h.get∧UH (fun c=>c=mp) st st':=by
 have B:=Qk.UM (o:=Yd mp l false) hf hr (fun c hc=>(show c=mp from hc)▸hr.lt hf);refine JF Tryz.func44 Tryz.ntmps44 fun T K=>?_;have M:=B.mem;refine Qc 2 K M ?_;intro _ K;replace B:=B.step M;obtain⟨v6,st6,ev6,rfl,hm3,Q3⟩:=CB B.fresh (B.at_ (k:=0) rfl) hl 1 hl1;refine p1 K (Qh rfl ev6) fun _ K=>?_;replace B:=B.call (k:=0) (o':=Yd mp (l-1) false) rfl Q3 hm3 (fun c hc=>⟨.inl hc,Nat.lt_of_lt_of_le (B.Yu (k:=0) rfl c hc) Q3.le⟩);have M:=B.mem;refine Qc 5 K M ?_;replace B:=B.step M;exact⟨rfl,B.at_ (k:=0) rfl,B.JM⟩

end Go.Proofs.YtiknomepbklibaaGreatDoor
end
section
namespace Go.Proofs.YtiknomepbklibaaGreatDoor
open Go Go.RowKit

def al(w:List Nat)(i:Nat):Nat:=(w[i]?).getD 0
def Tk(k c:Nat):Prop:=c=0∨c=2^k
end Go.Proofs.YtiknomepbklibaaGreatDoor
end
section
namespace Go.Proofs.YtiknomepbklibaaGreatDoor
open Go Go.RowKit

def NO(a b:Au)(p:Nat×Nat)(c:Nat):Nat×Nat:=(a.go p.1 c,b.go p.2 c)
def Pq(t:Nat)(x y:Bool):Bool:=t/2^((if x then 2 else 0)+(if y then 1 else 0)) % 2==1
def HV(a b:Au)(t:Nat)(p:Nat×Nat):Bool:=Pq t (a.ok p.1) (b.ok p.2)
theorem x9(a b:Au): ∀(w:List Nat) (p:Nat×Nat),w.foldl (NO a b) p=(a.run p.1 w,b.run p.2 w)
 |[],p=>rfl
 |c::w,p=>by rw[List.foldl_cons,x9 a b w];rfl
abbrev Kl(a b:Au)(t:Nat)(l:List (Nat×Nat))(m:Au):Prop:=UA (NO a b) (0,0) (HV a b t) l m∧m.tr=a.tr
theorem Kl.Mb{a b m:Au}{t:Nat}{l:List (Nat×Nat)}(H:Kl a b t l m){w:List Nat}(hw:BV a.K w):m.ok (m.run 0 w)=Pq t (a.ok (a.run 0 w)) (b.ok (b.run 0 w)):=by
 rw[H.1.Mb (by unfold Au.K at hw ⊢;rw[H.2];exact hw),x9];rfl
section
variable {a b m:Au} {t k:Nat} {l:List (Nat×Nat)} {w:List Nat}
end
end Go.Proofs.YtiknomepbklibaaGreatDoor
end
