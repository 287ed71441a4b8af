/-
  Facts on the program's types.
-/
import Derived.Test.YtiknomepbklibaaGreatDoorCeBdB
set_option maxRecDepth 100000
set_option maxHeartbeats 8000000
set_option linter.unnecessarySimpa false
set_option linter.unusedSimpArgs false
set_option linter.unusedVariables false
section
namespace Go.Proofs.YtiknomepbklibaaGreatDoor
open Go

theorem Hi:tk Tryz.prog 52=.one:=by kernel_rfl
theorem Hm:YI Tryz.prog 52=some 1:=by kernel_rfl
theorem He:zeroOf Tryz.prog 52=some [.nilf]:=by kernel_rfl
end Go.Proofs.YtiknomepbklibaaGreatDoor
end
section
namespace Go.Proofs.YtiknomepbklibaaGreatDoor
open Go

theorem YE:tk Tryz.prog 93=.one:=by kernel_rfl
theorem J2:tk Tryz.prog 179=.one:=by kernel_rfl
theorem Xj:tk Tryz.prog 200=.one:=by kernel_rfl
end Go.Proofs.YtiknomepbklibaaGreatDoor
end
section
namespace Go.Proofs.YtiknomepbklibaaGreatDoor
open Go Go.RowKit
variable {a:Au}

def bC(l:List Bool):List (List AV):=l.map fun b=>[AV.bool b]
theorem JH(l:List Bool):(bC l).length=l.length:=by simp[bC]
theorem Wh{l:List Bool}{i:Nat}{b:Bool}(h:l[i]? =some b):(bC l)[i]? =some [AV.bool b]:=by rw[bC,List.getElem?_map,h];rfl
theorem XL(a b:List Bool):bC (a++b)=bC a++bC b:=by simp[bC]
theorem y5(l:List Bool): ∀cs∈bC l,cs.length=1:=by
 intro cs h;obtain⟨s,_,rfl⟩:=List.mem_map.1 h;rfl
def yQ(F:Fp)(v:AV):Prop:= ∀c m o n y,v=.sl c m o n y→F c
theorem Acc.xw{n0 z:Nat}{A:QT}{kr:AV}{ls:List (List AV)}(hA:Acc n0 z A kr ls):yQ (Xf A).F kr:=fun c m o n y e=>by
 cases hA with
 |none=>cases e
 |own h1 h2 h3=>injection e with e1 e2;subst e1;exact⟨_,_,List.mem_cons_self ..⟩
theorem YP.xw{A:QT}{kr:AV}{vs:List AV}(hA:YP A kr vs):yQ (Xf A).F kr:=fun c m o n y e=>by
 cases hA with
 |none=>cases e
 |own h3=>injection e with e1 e2;subst e1;exact⟨_,_,List.mem_cons_self ..⟩
structure YO(h:Hp)(F:Fp)(vs:List AV)(LL:List (List Int)):Prop where
 ln:vs.length=LL.length
 at_: ∀(i:Nat) (s:List Int),LL[i]? =some s→ ∃v,vs[i]? =some v∧Jj h [] 1 (zC s) v∧Xp s∧yQ F v
theorem YO.frame{h h':Hp}{F:Fp}{vs:List AV}{LL:List (List Int)}(e: ∀c,F c→h' c=h c)(H:YO h F vs LL):YO h' F vs LL:=
 ⟨H.ln,fun i s hi=>by
  obtain⟨v,h1,h2,h3,h4⟩:=H.at_ i s hi
  exact⟨v,h1,h2.frame fun c m o n y e'=>e c (h4 c m o n y e'),h3,h4⟩⟩
def ED(F:Fp)(vs:List AV)(LL:List (List Int)):Ob:=⟨F,fun h=>YO h F vs LL,fun _ _ e H=>H.frame e⟩
structure Xo(h:Hp)(F:Fp)(kn:AV)(vs:List AV)(LL:List (List Int)):Prop where
 rd:Jj h [] 1 (vs.map fun v=>[v]) kn
 vs:YO h F vs LL
 out:yQ F kn
theorem Xo.frame{h h':Hp}{F:Fp}{kn:AV}{vs:List AV}{LL:List (List Int)}(e: ∀c,F c→h' c=h c)(H:Xo h F kn vs LL):Xo h' F kn vs LL:=
 ⟨H.rd.frame fun c m o n y e'=>e c (H.out c m o n y e'),H.vs.frame e,H.out⟩
def BM(F:Fp)(kn:AV)(vs:List AV)(LL:List (List Int)):Ob:=⟨F,fun h=>Xo h F kn vs LL,fun _ _ e H=>H.frame e⟩
theorem Xo.r{h:Hp}{F:Fp}{kn:AV}{vs:List AV}{LL:List (List Int)}(H:Xo h F kn vs LL):Oi h LL kn (vs.map fun v=>[v]):=by
 refine⟨H.rd,by rw[List.length_map];exact H.vs.ln,fun i s hi=>?_⟩;obtain⟨v,k1,k2,k3,_⟩:=H.vs.at_ i s hi;exact⟨[v],by rw[List.getElem?_map,k1];rfl,v,rfl,k2,k3⟩
theorem Xo.len{h:Hp}{F:Fp}{kn:AV}{vs:List AV}{LL:List (List Int)}(H:Xo h F kn vs LL):Y9 kn=some LL.length:=H.r.len
section
variable {st0 st:St} {X0:Fp} {L A B M:QT} {Os:List Ob} {F:Fp} {vs:List AV} {LL:List (List Int)} {kr kn:AV} {row:List Int}
theorem Qk.fh{A B:QT}(H:Qk st0 X0 st (L++(A++B)) Os):Qk st0 X0 st (A++(L++B)) Os:=H.perm (by rw[←List.append_assoc,←List.append_assoc];exact List.perm_append_comm.append_right B)
theorem Qk.Vx(B:Qk st0 X0 st M Os):Qk st0 X0 st M (ED Xv [] []::Os):=
 B.new ⟨B.fresh,Nat.le_refl _,fun _ _=>rfl⟩ ⟨rfl,fun i s hi=>by simp at hi⟩ fun c hc=>hc.elim
theorem Qk.Z7(H:Qk st0 X0 st (L++(A++B)) (ED F vs LL::Os)){n0:Nat}(hA:Acc n0 1 A kr (zC row))(hz:Xp row): ∃F',Qk st0 X0 st (L++B) (ED F' (vs++[kr]) (LL++[row])::Os):=by
 have hr:Jj st.h.get [] 1 (zC row) kr:=Mem.Yx H.mem hA;have hin:=hA.xw;have B1:=H.fh.freeze (o:=⟨(Xf A).F,fun h=>Jj h [] 1 (zC row) kr,fun h h' e r=>r.frame fun c m o n y e'=>e c (hin c m o n y e')⟩) hr (fun c hc=>hc);refine⟨fun c=>(Xf A).F c∨F c,B1.join (fun h1 h2=>⟨by rw[List.length_append,List.length_append,h2.ln];rfl,fun i s hi=>?_⟩) fun c hc=>hc⟩
 by_cases hl:i<LL.length
 ·rw[List.getElem?_append_left hl]at hi;obtain⟨v,k1,k2,k3,k4⟩:=h2.at_ i s hi;exact⟨v,by rw[List.getElem?_append_left (by rw[h2.ln];exact hl)];exact k1,k2,k3,fun c m o n y e=>.inr (k4 c m o n y e)⟩
 ·have hlt:=(List.getElem?_eq_some_iff.1 hi).1;rw[List.length_append,List.length_singleton]at hlt
  have hl:i=LL.length:=by omega
  subst hl;rw[List.getElem?_append_right (Nat.le_refl _),Nat.sub_self]at hi
  injection hi with hi
  subst hi;exact⟨kr,by rw[List.getElem?_append_right (by rw[h2.ln];exact Nat.le_refl _),h2.ln,Nat.sub_self];rfl,h1,hz,fun c m o n y e=>.inl (hin c m o n y e)⟩
theorem Qk.Bd(H:Qk st0 X0 st (L++(A++B)) (ED F vs LL::Os))(hA:YP A kn vs): ∃F',Qk st0 X0 st (L++B) (BM F' kn vs LL::Os):=by
 have hr:Jj st.h.get [] 1 (vs.map fun v=>[v]) kn:=hA.rd fun c m l hm=>H.row c m l (by simp[hm]);have hin:=hA.xw;have B1:=H.fh.freeze (o:=⟨(Xf A).F,fun h=>Jj h [] 1 (vs.map fun v=>[v]) kn,fun h h' e r=>r.frame fun c m o n y e'=>e c (hin c m o n y e')⟩) hr (fun c hc=>hc);refine⟨fun c=>(Xf A).F c∨F c,B1.join (fun h1 h2=>⟨h1,⟨h2.ln,fun i s hi=>?_⟩,fun c m o n y e=>.inl (hin c m o n y e)⟩) fun c hc=>hc⟩;obtain⟨v,k1,k2,k3,k4⟩:=h2.at_ i s hi;exact⟨v,k1,k2,k3,fun c m o n y e=>.inr (k4 c m o n y e)⟩
end
def P1(h:Hp)(F:Fp)(dp:Nat)(a:Au):Prop:=
 ∃(ka kr:AV) (sp:Nat) (F1:Fp) (S:U6) (roots:List Nat),Q4 h dp 0 [ka,kr,.ptr sp 0 0]∧F dp∧Jj h [] 1 (bC a.acc) ka∧yQ F ka∧Jj h [] 1 (zC (roots.map fun r=>((r:Nat):Int))) kr∧yQ F kr∧A5 h F1 sp a.tr S∧(∀c,F1 c→F c)∧Xb a.tr S∧Zl a∧roots.length=a.n∧
  ∀(s r:Nat),roots[s]? =some r→r<S.length∧a.nx[s]? =some (Wx a.tr S r)
theorem P1.frame{h h':Hp}{F:Fp}{dp:Nat}{a:Au}(e: ∀c,F c→h' c=h c)(H:P1 h F dp a):P1 h' F dp a:=by
 obtain⟨ka,kr,sp,F1,S,roots,h1,h2,h3,h4,h5,h6,h7,h8,h9⟩:=H;exact⟨ka,kr,sp,F1,S,roots,h1.frame (e dp h2),h2,h3.frame fun c m o n y e'=>e c (h4 c m o n y e'),h4,h5.frame fun c m o n y e'=>e c (h6 c m o n y e'),h6,h7.frame fun c hc=>e c (h8 c hc),h8,h9⟩
def HU(F:Fp)(dp:Nat)(a:Au):Ob:=⟨F,fun h=>P1 h F dp a,fun _ _ e H=>H.frame e⟩
structure UT(st:St)(F:Fp)(dp:Nat)(a:Au):Prop where
 at_:P1 st.h.get F dp a
 hi: ∀c,F c→c<st.n
theorem UT.q{st st':St}{F:Fp}{dp:Nat}{a:Au}(hD:UT st F dp a)(q:Qt st st'):UT st' F dp a:=⟨hD.at_.frame fun c hc=>q.J5 c (hD.hi c hc),fun c hc=>Nat.lt_of_lt_of_le (hD.hi c hc) q.le⟩
theorem UT.wf{st:St}{F:Fp}{dp:Nat}(hD:UT st F dp a):Zl a:=by
 obtain⟨_,_,_,_,_,_,_,_,_,_,_,_,_,_,_,h,_⟩:=hD.at_;exact h
theorem Qk.MO{st0 st:St}{X0 F:Fp}{M:QT}{Os:List Ob}{dp:Nat}(B:Qk st0 X0 st M Os){k:Nat}(hk:Os[k]? =some (HU F dp a)):UT st F dp a:=⟨B.at_ hk,B.Y1 hk⟩
theorem Zl.AZ(W:Zl a): ∀r∈a.nx,Xp r:=fun r hr z hz=>by
 obtain⟨_,h⟩:=W.row r hr;have:=h z hz;have:=W.most;omega
end Go.Proofs.YtiknomepbklibaaGreatDoor
end
section
namespace Go.Proofs.YtiknomepbklibaaGreatDoor
open Go Go.RowKit

def UU(h:Hp)(F:Fp)(z:Nat)(ks:AV)(ls:List (List AV)):Prop:= ∃A,Acc 0 z A ks ls∧(∀c m l,(c,m,l)∈A→Q4 h c m l∧F c)
def Wk(F:Fp)(z:Nat)(ks:AV)(ls:List (List AV)):Ob:=⟨F,fun h=>UU h F z ks ls,fun h h' e H=>by
 obtain⟨A,h1,h2⟩:=H
 exact⟨A,h1,fun c m l hm=>⟨(h2 c m l hm).1.frame (e c (h2 c m l hm).2),(h2 c m l hm).2⟩⟩⟩
theorem qi{n0 z:Nat}{A:QT}{ks:AV}{ls:List (List AV)}(hA:Acc n0 z A ks ls):(A.map Prod.fst).Nodup:=by cases hA<;>simp
section
variable {st0 st:St} {X0 F:Fp} {M A:QT} {Os:List Ob} {z:Nat} {ks:AV} {ls:List (List AV)}
theorem UU.rd{h:Hp}(H:UU h F z ks ls):Jj h [] z ls ks:=by
 obtain⟨A,h1,h2⟩:=H
 cases h1 with
 |none=>exact .nil _ _ _
 |own k1 k2 k3=>exact Jj.own (h2 _ _ _ (List.mem_cons_self ..)).1 k2 Q7 Qe
theorem UU.len{h:Hp}(H:UU h F z ks ls):Y9 ks=some ls.length:=by obtain⟨A,h1,_⟩:=H;exact h1.len
theorem UU.cell{h:Hp}(H:UU h F z ks ls):Qu ks=true:=by obtain⟨A,h1,_⟩:=H;exact h1.cell
theorem Qk.B7(B:Qk st0 X0 st M (Wk F z ks ls::Os)): ∃A,Acc 0 z A ks ls∧Qk st0 X0 st (A++M) Os:=by
 obtain⟨A,h1,h2⟩:=B.obj _ (List.mem_cons_self ..);have B1:=B.vD (R:=A) (o':=⟨Xv,fun _=>True,fun _ _ _ h=>h⟩) h2 (qi h1) trivial (fun c hc=>hc.elim) (fun c m l _ hc=>hc);exact⟨A,h1,B1.Nr (.cons _ (.refl _))⟩
theorem Qk.V9(B:Qk st0 X0 st (A++M) Os)(hA:Acc 0 z A ks ls): ∃F',Qk st0 X0 st M (Wk F' z ks ls::Os):=
 ⟨(Xf A).F,B.freeze (o:=Wk (Xf A).F z ks ls) ⟨A,hA,fun c m l hm=>⟨B.row c m l (by simp[hm]),m,l,hm⟩⟩ fun c hc=>hc⟩
end
end Go.Proofs.YtiknomepbklibaaGreatDoor
end
section
namespace Go.Proofs.YtiknomepbklibaaGreatDoor
open Go Go.RowKit
variable {l:Nat} {st:St}

def Yl(mp l:Nat)(o:Bool):Ob:=⟨fun c=>c=mp,fun h=>Q4 h mp 0 [.int .i64 (l:Nat),.bool o],fun _ _ e H=>H.frame (e mp rfl)⟩
theorem Qk.Ho(hf:Qj st){c m:Nat}{l:List AV}(h:Q4 st.h.get c m l):Qk st (fun x=>x=c) st [(c,m,l)] []:=
 ⟨hf,Nat.le_refl _,fun c' m' l' h'=>(by injection List.mem_singleton.1 h' with e1 e2;injection e2 with e2 e3;subst e1 e2 e3;exact h),List.nodup_cons.2 ⟨by simp,List.nodup_nil⟩,fun c' m' l' h'=>(by injection List.mem_singleton.1 h' with e1 e2;exact .inr e1),fun o h=>(by cases h),fun o h=>(by cases h),.nil,fun o h=>(by cases h),fun _ _ _=>rfl⟩
def BJ(l:Nat)(o:Bool)(n:Nat):Bool:= !o&&decide (n≤l)
def UM(l:Nat)(o:Bool)(n:Nat):Nat:=if o then l else l-n
def Zr(l:Nat)(o:Bool)(n:Nat):Bool:=o||decide (l<n)
theorem SQ{n:Nat}(h:n≤l):BJ l false n=true:=by simp[BJ,h]
theorem Gx(l n:Nat):UM l false n=l-n:=rfl
theorem H5{n:Nat}(h:n≤l):Zr l false n=false:=by simp[Zr];omega

theorem SR(hf:Qj st)(n:Int): ∃v st',Ev Tryz.prog Q0 11 [iZ n] st v st'∧ ∃mp,v=.ptr mp 0 0∧st.n≤mp∧Q4 st'.h.get mp 0 [iZ (n.toNat:Nat),.bool false]∧Qt st st':=by
 refine JB Tryz.func11 Tryz.ntmps11 fun T K=>?_;have M:=Mem.start hf;refine Qc 2 K M ?_;intro _ K;refine p1 K (jr rfl rfl) fun _ K=>?_;refine au 3 K M ?_;intro c6 _ _ K _ M;refine Qc 0 K M ?_;refine⟨c6,rfl,(M.own c6 0 _ (List.mem_cons_self ..)).resolve_right Q7,?_,M.qt⟩;have hr9:=M.UW (k:=0) rfl
 rwa [show max n 0=((n.toNat:Nat):Int) by omega]at hr9

theorem xi(hf:Qj st){mp:Nat}{o:Bool}(hr:Q4 st.h.get mp 0 [iN l,.bool o]): ∃v st',Ev Tryz.prog Q0 88 [.ptr mp 0 0] st v st'∧v=.bool o∧Qt st st':=by
 refine JB Tryz.func88 Tryz.ntmps88 fun T K=>?_;have M:=Mem.start hf;refine Qc 2 K M ?_;intro _ K;refine p1 K (Yc Io rfl rfl) fun _ K=>?_;refine Qc 4 K M ?_;intro _ K;refine pg K rfl rfl (Qd rfl (Qz (M.JE Q7 hr.Jb) (Qf J3 rfl))) fun _ K=>?_;refine Qc 2 K M ?_;exact⟨rfl,M.qt⟩

theorem Gw(hf:Qj st){mp:Nat}{o:Bool}(hr:Q4 st.h.get mp 0 [.int .i64 (l:Nat),.bool o])(hl:l≤9223372036854775807)(n:Nat)(hn:n≤9223372036854775807): ∃v st',Ev Tryz.prog Q0 62 [.ptr mp 0 0,.int .i64 (n:Nat)] st v st'∧v=.bool (BJ l o n)∧(Yl mp (UM l o n) (Zr l o n)).H st'.h.get∧UO (fun c=>c=mp) st st':=by
 have B:=Qk.Ho hf hr;refine BT rfl Tryz.func62 rfl Tryz.ntmps62 rfl fun T hT=>?_;have K:QX [(0,_),(1,_)] T:=(.cons (hT 0) (.cons (hT 1) .nil));have M:=B.mem;refine Qc 3 K M ?_;intro _ K;refine Un K (Qg rfl) rfl (fun _ e8 K=>?_) fun _ e8 K=>?_
 ·refine Qc 1 K M ?_;intro _ K;obtain⟨v10,st10,ev10,rfl,q10⟩:=xi M.fresh (M.UW (k:=0) rfl);refine pg K rfl rfl (Qh rfl ev10) fun _ K=>?_;replace M:=M.quiet q10;refine Qc 2 K M ?_;intro _ K;refine Qq (K.QH rfl) (fun h5=>?_) (fun h5=>?_)
  ·have hb5:=h5;refine Qc 1 K M ?_;refine⟨congrArg AV.bool ?_,?_,(B.step M).JM⟩
   ·clear M B hr K hT
    cases o<;>simp_all [BJ]<;>omega
   ·have hr9:=M.UW (k:=0) rfl
    have e9:([.int .i64 (UM l o n:Nat),.bool (Zr l o n)]:List AV)=[.int .i64 (l:Nat),.bool o]:=by
     clear M B hr K hT hr9
     cases o<;>simp_all [UM,Zr]<;>omega
    show Q4 _ mp 0 [.int .i64 (UM l o n:Nat),.bool (Zr l o n)];rw[e9];exact hr9
  have hb5:=h5;refine Qc 7 K M ?_;intro _ K;refine JN K rfl (fun h12=>?_) fun h12=>?_
  ·refine au 9 K M ?_;intro _ _ K _ M;refine Qc 0 K M ?_;refine⟨congrArg AV.bool ?_,?_,(B.step M).JM⟩
   ·clear M B hr K hT
    cases o<;>simp_all [BJ]<;>omega
   ·have hr9:=M.UW (k:=0) rfl
    have e9:([.int .i64 (UM l o n:Nat),.bool (Zr l o n)]:List AV)=[.int .i64 0,.bool true]:=by
     clear M B hr K hT hr9
     cases o<;>simp_all [UM,Zr]<;>omega
    show Q4 _ mp 0 [.int .i64 (UM l o n:Nat),.bool (Zr l o n)];rw[e9];exact hr9
  refine au 10 K M ?_;intro _ _ K _ M;refine Qc 0 K M ?_;refine⟨congrArg AV.bool ?_,?_,(B.step M).JM⟩
  ·clear M B hr K hT
   cases o<;>simp_all [BJ]<;>omega
  ·have hr9:=M.UW (k:=0) rfl
   have e9:([.int .i64 (UM l o n:Nat),.bool (Zr l o n)]:List AV)=[.int .i64 ((((l:Nat):Int)-((n:Nat):Int))),.bool o]:=by
    clear M B hr K hT hr9
    cases o<;>simp_all [UM,Zr]<;>omega
   show Q4 _ mp 0 [.int .i64 (UM l o n:Nat),.bool (Zr l o n)];rw[e9];exact hr9
 refine Qc 6 K M ?_;refine⟨congrArg AV.bool ?_,?_,(B.step M).JM⟩
 ·clear M B hr K hT
  cases o<;>simp_all [BJ]<;>omega
 ·have hr9:=M.UW (k:=0) rfl
  have e9:([.int .i64 (UM l o n:Nat),.bool (Zr l o n)]:List AV)=[.int .i64 (l:Nat),.bool o]:=by
   clear M B hr K hT hr9
   cases o<;>simp_all [UM,Zr]<;>omega
  show Q4 _ mp 0 [.int .i64 (UM l o n:Nat),.bool (Zr l o n)];rw[e9];exact hr9
end Go.Proofs.YtiknomepbklibaaGreatDoor
end
section
namespace Go.Proofs.YtiknomepbklibaaGreatDoor
open Go Go.RowKit
variable {l mp:Nat} {st:St}

theorem CV(hf:Qj st)(n:Int): ∃v st',Ev Tryz.prog Q0 46 [iZ n] st v st'∧ ∃mp,v=.ptr mp 0 0∧st.n≤mp∧Q4 st'.h.get mp 0 [iZ (n.toNat:Nat),.bool false]∧Qt st st':=by
 refine JB Tryz.func46 Tryz.ntmps46 fun T K=>?_;have M:=Mem.start hf;refine Qc 2 K M ?_;intro _ K;refine p1 K (jr rfl rfl) fun _ K=>?_;refine au 3 K M ?_;intro c6 _ _ K _ M;refine Qc 0 K M ?_;refine⟨c6,rfl,(M.own c6 0 _ (List.mem_cons_self ..)).resolve_right Q7,?_,M.qt⟩;have hr9:=M.UW (k:=0) rfl
 rwa [show max 0 n=((n.toNat:Nat):Int) by omega]at hr9

theorem LJ(hf:Qj st){o:Bool}(hr:Q4 st.h.get mp 0 [.int .i64 (l:Nat),.bool o])(hl:l≤9223372036854775807)(n:Nat)(hn:n≤9223372036854775807): ∃v st',Ev Tryz.prog Q0 72 [.ptr mp 0 0,.int .i64 (n:Nat)] st v st'∧v=.bool (BJ l o n)∧(Yl mp (UM l o n) (Zr l o n)).H st'.h.get∧UO (fun c=>c=mp) st st':=by
 have B:=Qk.Ho hf hr;refine BT rfl Tryz.func72 rfl Tryz.ntmps72 rfl fun T hT=>?_;have K:QX [(0,_),(1,_)] T:=(.cons (hT 0) (.cons (hT 1) .nil));have M:=B.mem;refine Qc 3 K M ?_;intro _ K;refine Un K (Qg rfl) rfl (fun _ e7 K=>?_) fun _ e7 K=>?_
 ·refine Qc 5 K M ?_;intro _ K;refine Qq (K.QH rfl) (fun h12=>?_) (fun h12=>?_)
  ·have hb12:=h12;refine Qc 1 K M ?_;refine⟨congrArg AV.bool ?_,?_,(B.step M).JM⟩
   ·clear M B hr K hT
    cases o<;>simp_all [BJ]<;>omega
   ·have hr9:=M.UW (k:=0) rfl
    have e9:([.int .i64 (UM l o n:Nat),.bool (Zr l o n)]:List AV)=[.int .i64 (l:Nat),.bool o]:=by
     clear M B hr K hT hr9
     cases o<;>simp_all [UM,Zr]<;>omega
    show Q4 _ mp 0 [.int .i64 (UM l o n:Nat),.bool (Zr l o n)];rw[e9];exact hr9
  have hb12:=h12;refine Qc 6 K M ?_;intro _ K;refine JN K rfl (fun h18=>?_) fun h18=>?_
  ·refine au 9 K M ?_;intro _ _ K _ M;refine Qc 0 K M ?_;refine⟨congrArg AV.bool ?_,?_,(B.step M).JM⟩
   ·clear M B hr K hT
    cases o<;>simp_all [BJ]<;>omega
   ·have hr9:=M.UW (k:=0) rfl
    have e9:([.int .i64 (UM l o n:Nat),.bool (Zr l o n)]:List AV)=[.int .i64 0,.bool true]:=by
     clear M B hr K hT hr9
     cases o<;>simp_all [UM,Zr]<;>omega
    show Q4 _ mp 0 [.int .i64 (UM l o n:Nat),.bool (Zr l o n)];rw[e9];exact hr9
  refine au 11 K M ?_;intro _ _ K _ M;refine Qc 0 K M ?_;refine⟨congrArg AV.bool ?_,?_,(B.step M).JM⟩
  ·clear M B hr K hT
   cases o<;>simp_all [BJ]<;>omega
  ·have hr9:=M.UW (k:=0) rfl
   have e9:([.int .i64 (UM l o n:Nat),.bool (Zr l o n)]:List AV)=[.int .i64 ((((l:Nat):Int)-((n:Nat):Int))),.bool o]:=by
    clear M B hr K hT hr9
    cases o<;>simp_all [UM,Zr]<;>omega
   show Q4 _ mp 0 [.int .i64 (UM l o n:Nat),.bool (Zr l o n)];rw[e9];exact hr9
 refine Qc 7 K M ?_;refine⟨congrArg AV.bool ?_,?_,(B.step M).JM⟩
 ·clear M B hr K hT
  cases o<;>simp_all [BJ]<;>omega
 ·have hr9:=M.UW (k:=0) rfl
  have e9:([.int .i64 (UM l o n:Nat),.bool (Zr l o n)]:List AV)=[.int .i64 (l:Nat),.bool o]:=by
   clear M B hr K hT hr9
   cases o<;>simp_all [UM,Zr]<;>omega
  show Q4 _ mp 0 [.int .i64 (UM l o n:Nat),.bool (Zr l o n)];rw[e9];exact hr9

theorem CU(hf:Qj st)(hr:Q4 st.h.get mp 0 [.int .i64 (l:Nat),.bool false])(hl:l≤9223372036854775807)(n:Nat)(hn:n≤l): ∃v st',Ev Tryz.prog Q0 72 [.ptr mp 0 0,.int .i64 (n:Nat)] st v st'∧v=.bool true∧(Yl mp (l-n) false).H st'.h.get∧UO (fun c=>c=mp) st st':=by
 obtain⟨v,st',h1,h2,h3,h4⟩:=LJ hf hr hl n Qe;exact⟨v,st',h1,by rw[h2,SQ hn],by rw[H5 hn]at h3;exact h3,h4⟩

theorem VI(hf:Qj st)(hr:Q4 st.h.get mp 0 [iN l,.bool false])(hl1:1≤l)(hl:l≤9223372036854775807)(n:Nat): ∃v st',Ev Tryz.prog Q0 44 [.ptr mp 0 0,iN n] st v st'∧v=.bool (decide ((n:Int)≤400))∧(Yl mp (l-1) false).H st'.h.get∧UO (fun c=>c=mp) st st':=by
 have B:=Qk.UI (o:=Yl mp l false) hf hr (fun c hc=>(show c=mp from hc)▸hr.lt hf);refine JB Tryz.func44 Tryz.ntmps44 fun T K=>?_;have M:=B.mem;refine Qc 2 K M ?_;intro _ K;replace B:=B.step M;obtain⟨v6,st6,ev6,rfl,hm3,Q3⟩:=CU B.fresh (B.at_ (k:=0) rfl) hl 1 hl1;refine p1 K (Qh rfl ev6) fun _ K=>?_;replace B:=B.call (k:=0) (o':=Yl mp (l-1) false) rfl Q3 hm3 (fun c hc=>⟨.inl hc,Nat.lt_of_lt_of_le (B.Y1 (k:=0) rfl c hc) Q3.le⟩);have M:=B.mem;refine Qc 5 K M ?_;replace B:=B.step M;exact⟨rfl,B.at_ (k:=0) rfl,B.JM⟩

end Go.Proofs.YtiknomepbklibaaGreatDoor
end
section
namespace Go.Proofs.YtiknomepbklibaaGreatDoor
open Go Go.RowKit

def fi(w:List Nat)(i:Nat):Nat:=(w[i]?).getD 0
theorem AH(k u:Nat):UQ k 0 u=u *2^k:=by simp[UQ]
theorem I3{a:Au}{k c:Nat}{q:List Int}{x:Int}:x∈JK a k q c↔ ∃z∈q,∃u,u≤1∧x=((a.go z.toNat (UQ k c u):Nat):Int):=by
 unfold JK;rw[XA,Gt]
theorem Dp{a:Au}{k:Nat}{z:Int}: ∀(w:List Nat) (q:List Int),(∀y∈q,0≤y)→(z∈w.foldl (JK a k) q↔ ∃y∈q,∃us:List Nat,us.length=w.length∧(∀u∈us,u≤1)∧z=((a.run y.toNat (List.zipWith (UQ k) w us):Nat):Int))
 |[],q,hq=>by
  constructor
  ·intro h;exact⟨z,h,[],rfl,(fun u hu=>by cases hu),(Int.toNat_of_nonneg (hq z h)).symm⟩
  ·rintro⟨y,hy,us,_,_,rfl⟩
   show((y.toNat:Nat):Int)∈q;rw[Int.toNat_of_nonneg (hq y hy)];exact hy
 |c::w,q,hq=>by
  rw[List.foldl_cons,Dp w (JK a k q c) fun y hy=>by
   obtain⟨_,_,_,_,rfl⟩:=I3.1 hy
   omega]
  constructor
  ·rintro⟨y',hy',us,hl,hu,rfl⟩
   obtain⟨y,hy,u,hu1,rfl⟩:=I3.1 hy';refine⟨y,hy,u::us,by simp[hl],fun x hx=>?_,rfl⟩;rcases List.mem_cons.1 hx with rfl|hx
   ·exact hu1
   ·exact hu x hx
  ·rintro⟨y,hy,us,hl,hu,rfl⟩
   cases us with
   |nil=>simp at hl
   |cons u us=>
    exact⟨_,I3.2 ⟨y,hy,u,hu u Q7,rfl⟩,us,by simpa using hl,fun x hx=>hu x (by simp[hx]),rfl⟩
def Tk(k c:Nat):Prop:=c=0∨c=2^k
theorem vB(k:Nat){u:Nat}(hu:u≤1):Tk k (UQ k 0 u):=by
 rw[AH]
 have:u=0∨u=1:=by omega
 rcases this with rfl|rfl
 ·exact .inl (Nat.zero_mul _)
 ·exact .inr (Nat.one_mul _)
theorem yg{a:Au}{k:Nat}: ∀(r:List Nat) {s:Nat},(∀c∈r,Tk k c)→a.ok (a.run s r)=true→xU a k s
 |[],s,_,h=>.acc h
 |c::r,s,hr,h=>by
  have ih:=yg (a:=a) (k:=k) r (s:=a.go s c) (fun x hx=>hr x (by simp[hx])) h;rcases hr c Q7 with e|e
  ·subst e;exact .low ih
  ·subst e;exact .high ih
theorem yf{a:Au}{k s:Nat}(h:xU a k s): ∃r:List Nat,(∀c∈r,Tk k c)∧a.ok (a.run s r)=true:=by
 induction h with
 |acc h=>exact⟨[],fun c h=>(by cases h),h⟩
 |low _ ih=>obtain⟨r,h1,h2⟩:=ih;exact⟨0::r,fun c hc=>by rcases List.mem_cons.1 hc with rfl|hc;exact .inl rfl;exact h1 c hc,h2⟩
 |high _ ih=>obtain⟨r,h1,h2⟩:=ih;exact⟨2^k::r,fun c hc=>by rcases List.mem_cons.1 hc with rfl|hc;exact .inr rfl;exact h1 c hc,h2⟩
theorem xQ{acc:List Bool}{q:List Int}:anyS acc q=true↔ ∃z∈q,Ik acc z.toNat=true:=by unfold anyS;rw[List.any_eq_true]
end Go.Proofs.YtiknomepbklibaaGreatDoor
end
section
namespace Go.Proofs.YtiknomepbklibaaGreatDoor
open Go Go.RowKit

def Og(a b:Au)(p:Nat×Nat)(c:Nat):Nat×Nat:=(a.go p.1 c,b.go p.2 c)
def PB(t:Nat)(x y:Bool):Bool:=t/2^((if x then 2 else 0)+(if y then 1 else 0)) % 2==1
def Ij(a b:Au)(t:Nat)(p:Nat×Nat):Bool:=PB t (a.ok p.1) (b.ok p.2)
theorem vi(a b:Au): ∀(w:List Nat) (p:Nat×Nat),w.foldl (Og a b) p=(a.run p.1 w,b.run p.2 w)
 |[],p=>rfl
 |c::w,p=>by rw[List.foldl_cons,vi a b w];rfl
abbrev KB(a b:Au)(t:Nat)(l:List (Nat×Nat))(m:Au):Prop:=U8 (Og a b) (0,0) (Ij a b t) l m∧m.tr=a.tr
theorem KB.O6{a b m:Au}{t:Nat}{l:List (Nat×Nat)}(H:KB a b t l m){w:List Nat}(hw:Vj a.K w):m.ok (m.run 0 w)=PB t (a.ok (a.run 0 w)) (b.ok (b.run 0 w)):=by
 rw[H.1.O6 (by unfold Au.K at hw ⊢;rw[H.2];exact hw),vi];rfl
theorem Gu{a:Au}{k:Nat}{z:Int}(w:List Nat):z∈w.foldl (JK a k) [0]↔ ∃us:List Nat,us.length=w.length∧(∀u∈us,u≤1)∧z=((a.run 0 (List.zipWith (UQ k) w us):Nat):Int):=by
 rw[Dp w [0] fun y hy=>by rw[List.mem_singleton.1 hy];decide];constructor
 ·rintro⟨y,hy,us,h⟩
  rw[List.mem_singleton.1 hy]at h;exact⟨us,h⟩
 ·rintro⟨us,h⟩
  exact⟨0,by simp,us,h⟩
theorem KW{T k:Nat}(hk:k<T): ∀{w us:List Nat},Vj (2^(T-1)) w→(∀u∈us,u≤1)→Vj (2^T) (List.zipWith (UQ k) w us)
 |[],us,_,_=>by intro c hc;simp at hc
 |x::w,[],_,_=>by intro c hc;simp at hc
 |x::w,u::us,hw,hu=>by
  intro c hc;rw[List.zipWith_cons_cons]at hc;rcases List.mem_cons.1 hc with rfl|hc
  ·exact Iw hk (hw x Q7) (hu u Q7)
  ·exact KW hk (fun y hy=>hw y (by simp[hy])) (fun y hy=>hu y (by simp[hy])) c hc
section
variable {a b m:Au} {t k:Nat} {l:List (Nat×Nat)} {w:List Nat}
end
theorem Pt{a:Au}(W:Zl a){k:Nat}(hk:k<a.tr){acc:List Bool}(hc:WO a k acc){w:List Nat}(hw:Vj (2^(a.tr-1)) w):anyS acc (w.foldl (JK a k) [0])=true↔ ∃us:List Nat,us.length=w.length∧(∀u∈us,u≤1)∧ ∃r:List Nat,(∀c∈r,Tk k c)∧a.ok (a.run 0 (List.zipWith (UQ k) w us++r))=true:=by
 rw[xQ];constructor
 ·rintro⟨z,hz,hb⟩
  obtain⟨us,h1,h2,rfl⟩:=(Gu w).1 hz;rw[Int.toNat_natCast]at hb;obtain⟨r,h3,h4⟩:=yf ((hc.iff _ (W.Iu _ W.pos (KW hk hw h2))).1 hb);exact⟨us,h1,h2,r,h3,by rw[Au.KZ];exact h4⟩
 ·rintro⟨us,h1,h2,r,h3,h4⟩
  rw[Au.KZ]at h4;exact⟨_,(Gu w).2 ⟨us,h1,h2,rfl⟩,by rw[Int.toNat_natCast];exact(hc.iff _ (W.Iu _ W.pos (KW hk hw h2))).2 (yg r h3 h4)⟩
end Go.Proofs.YtiknomepbklibaaGreatDoor
end
