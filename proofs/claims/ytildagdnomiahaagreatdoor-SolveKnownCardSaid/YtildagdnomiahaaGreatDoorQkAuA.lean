/-
  Facts on the program's types.
-/
import Derived.Test.YtildagdnomiahaaGreatDoorQkTyk
set_option maxRecDepth 100000
set_option maxHeartbeats 8000000
set_option linter.unnecessarySimpa false
set_option linter.unusedSimpArgs false
set_option linter.unusedVariables false
namespace Go.Proofs.YtildagdnomiahaaGreatDoor
section
open Go

theorem OP:tk Tryz.prog 57=.one:=by kernel_rfl
theorem AX:tk Tryz.prog 53=.one:=by kernel_rfl
theorem Fa:Yb Tryz.prog 53=some 1:=by kernel_rfl
theorem AQ:zeroOf Tryz.prog 53=some [.nilf]:=by kernel_rfl
end
section
open Go Go.RowKit
variable {a:Au}

def bC(l:List Bool):List (List AV):=l.map fun b=>[AV.bool b]
theorem XK(l:List Bool):(bC l).length=l.length:=by simp[bC]
theorem aC{l:List Bool}{i:Nat}{b:Bool}(h:l[i]? =some b):(bC l)[i]? =some [AV.bool b]:=by rw[bC,List.getElem?_map,h];rfl
theorem Be(a b:List Bool):bC (a++b)=bC a++bC b:=by simp[bC]
theorem aB(l:List Bool): ∀cs∈bC l,cs.length=1:=by
 intro cs h;obtain⟨s,_,rfl⟩:=List.mem_map.1 h;rfl
def yQ(F:Fp)(v:AV):Prop:= ∀c m o n y,v=.sl c m o n y→F c
theorem Acc.vQ{n0 z:Nat}{A:QK}{kr:AV}{ls:List (List AV)}(hA:Acc n0 z A kr ls):yQ (ZO A).F kr:=fun c m o n y e=>by
 cases hA with
 |none=>cases e
 |own h1 h2 h3=>injection e with e1 e2;subst e1;exact⟨_,_,List.mem_cons_self ..⟩
theorem YS.vQ{A:QK}{kr:AV}{vs:List AV}(hA:YS A kr vs):yQ (ZO A).F kr:=fun c m o n y e=>by
 cases hA with
 |none=>cases e
 |own h3=>injection e with e1 e2;subst e1;exact⟨_,_,List.mem_cons_self ..⟩
structure Bk(h:Hp)(F:Fp)(vs:List AV)(LL:List (List Int)):Prop where
 ln:vs.length=LL.length
 at_: ∀(i:Nat) (s:List Int),LL[i]? =some s→ ∃v,vs[i]? =some v∧Jb h [] 1 (zC s) v∧FU s∧yQ F v
theorem Bk.frame{h h':Hp}{F:Fp}{vs:List AV}{LL:List (List Int)}(e: ∀c,F c→h' c=h c)(H:Bk h F vs LL):Bk h' F vs LL:=
 ⟨H.ln,fun i s hi=>by
  obtain⟨v,h1,h2,h3,h4⟩:=H.at_ i s hi
  exact⟨v,h1,h2.frame fun c m o n y e'=>e c (h4 c m o n y e'),h3,h4⟩⟩
def SH(F:Fp)(vs:List AV)(LL:List (List Int)):Ob:=⟨F,fun h=>Bk h F vs LL,fun _ _ e H=>H.frame e⟩
structure Zc(h:Hp)(F:Fp)(kn:AV)(vs:List AV)(LL:List (List Int)):Prop where
 rd:Jb h [] 1 (vs.map fun v=>[v]) kn
 vs:Bk h F vs LL
 out:yQ F kn
theorem Zc.frame{h h':Hp}{F:Fp}{kn:AV}{vs:List AV}{LL:List (List Int)}(e: ∀c,F c→h' c=h c)(H:Zc h F kn vs LL):Zc h' F kn vs LL:=
 ⟨H.rd.frame fun c m o n y e'=>e c (H.out c m o n y e'),H.vs.frame e,H.out⟩
def Ns(F:Fp)(kn:AV)(vs:List AV)(LL:List (List Int)):Ob:=⟨F,fun h=>Zc h F kn vs LL,fun _ _ e H=>H.frame e⟩
theorem Zc.r{h:Hp}{F:Fp}{kn:AV}{vs:List AV}{LL:List (List Int)}(H:Zc h F kn vs LL):MD h LL kn (vs.map fun v=>[v]):=by
 refine⟨H.rd,by rw[List.length_map];exact H.vs.ln,fun i s hi=>?_⟩;obtain⟨v,k1,k2,k3,_⟩:=H.vs.at_ i s hi;exact⟨[v],by rw[List.getElem?_map,k1];rfl,v,rfl,k2,k3⟩
theorem Zc.len{h:Hp}{F:Fp}{kn:AV}{vs:List AV}{LL:List (List Int)}(H:Zc h F kn vs LL):JZ kn=some LL.length:=H.r.len
section
variable {st0 st:St} {X0:Fp} {L A B M:QK} {Os:List Ob} {F:Fp} {vs:List AV} {LL:List (List Int)} {kr kn:AV} {row:List Int}
theorem Ql.kZ{A B:QK}(H:Ql st0 X0 st (L++(A++B)) Os):Ql st0 X0 st (A++(L++B)) Os:=H.perm (by rw[←List.append_assoc,←List.append_assoc];exact List.perm_append_comm.append_right B)
theorem Ql.KO(B:Ql st0 X0 st M Os):Ql st0 X0 st M (SH WM [] []::Os):=
 B.new ⟨B.fresh,Nat.le_refl _,fun _ _=>rfl⟩ ⟨rfl,fun i s hi=>by simp at hi⟩ fun c hc=>hc.elim
theorem Ql.LQ(H:Ql st0 X0 st (L++(A++B)) (SH F vs LL::Os)){n0:Nat}(hA:Acc n0 1 A kr (zC row))(hz:FU row): ∃F',Ql st0 X0 st (L++B) (SH F' (vs++[kr]) (LL++[row])::Os):=by
 have hr:Jb st.h.get [] 1 (zC row) kr:=Mem.Zs H.mem hA;have hin:=hA.vQ;have B1:=H.kZ.freeze (o:=⟨(ZO A).F,fun h=>Jb h [] 1 (zC row) kr,fun h h' e r=>r.frame fun c m o n y e'=>e c (hin c m o n y e')⟩) hr (fun c hc=>hc);refine⟨fun c=>(ZO A).F c∨F c,B1.join (fun h1 h2=>⟨by rw[List.length_append,List.length_append,h2.ln];rfl,fun i s hi=>?_⟩) fun c hc=>hc⟩
 by_cases hl:i<LL.length
 ·rw[List.getElem?_append_left hl]at hi;obtain⟨v,k1,k2,k3,k4⟩:=h2.at_ i s hi;exact⟨v,by rw[List.getElem?_append_left (by rw[h2.ln];exact hl)];exact k1,k2,k3,fun c m o n y e=>.inr (k4 c m o n y e)⟩
 ·have hlt:=(List.getElem?_eq_some_iff.1 hi).1;rw[List.length_append,List.length_singleton]at hlt
  have hl:i=LL.length:=by omega
  subst hl;rw[List.getElem?_append_right (Nat.le_refl _),Nat.sub_self]at hi
  injection hi with hi
  subst hi;exact⟨kr,by rw[List.getElem?_append_right (by rw[h2.ln];exact Nat.le_refl _),h2.ln,Nat.sub_self];rfl,h1,hz,fun c m o n y e=>.inl (hin c m o n y e)⟩
theorem Ql.MP(H:Ql st0 X0 st (L++(A++B)) (SH F vs LL::Os))(hA:YS A kn vs): ∃F',Ql st0 X0 st (L++B) (Ns F' kn vs LL::Os):=by
 have hr:Jb st.h.get [] 1 (vs.map fun v=>[v]) kn:=hA.rd fun c m l hm=>H.row c m l (by simp[hm]);have hin:=hA.vQ;have B1:=H.kZ.freeze (o:=⟨(ZO A).F,fun h=>Jb h [] 1 (vs.map fun v=>[v]) kn,fun h h' e r=>r.frame fun c m o n y e'=>e c (hin c m o n y e')⟩) hr (fun c hc=>hc);refine⟨fun c=>(ZO A).F c∨F c,B1.join (fun h1 h2=>⟨h1,⟨h2.ln,fun i s hi=>?_⟩,fun c m o n y e=>.inl (hin c m o n y e)⟩) fun c hc=>hc⟩;obtain⟨v,k1,k2,k3,k4⟩:=h2.at_ i s hi;exact⟨v,k1,k2,k3,fun c m o n y e=>.inr (k4 c m o n y e)⟩
end
def DC(h:Hp)(F:Fp)(dp:Nat)(a:Au):Prop:=
 ∃(ka kr:AV) (sp:Nat) (F1:Fp) (S:JW) (roots:List Nat),Qu h dp 0 [ka,kr,.ptr sp 0 0]∧F dp∧Jb h [] 1 (bC a.acc) ka∧yQ F ka∧Jb h [] 1 (zC (roots.map fun r=>((r:Nat):Int))) kr∧yQ F kr∧Er h F1 sp a.tr S∧(∀c,F1 c→F c)∧Zy a.tr S∧ZX a∧roots.length=a.n∧
  ∀(s r:Nat),roots[s]? =some r→r<S.length∧a.nx[s]? =some (Wg a.tr S r)
theorem DC.frame{h h':Hp}{F:Fp}{dp:Nat}{a:Au}(e: ∀c,F c→h' c=h c)(H:DC h F dp a):DC h' F dp a:=by
 obtain⟨ka,kr,sp,F1,S,roots,h1,h2,h3,h4,h5,h6,h7,h8,h9⟩:=H;exact⟨ka,kr,sp,F1,S,roots,h1.frame (e dp h2),h2,h3.frame fun c m o n y e'=>e c (h4 c m o n y e'),h4,h5.frame fun c m o n y e'=>e c (h6 c m o n y e'),h6,h7.frame fun c hc=>e c (h8 c hc),h8,h9⟩
def A9(F:Fp)(dp:Nat)(a:Au):Ob:=⟨F,fun h=>DC h F dp a,fun _ _ e H=>H.frame e⟩
structure JH(st:St)(F:Fp)(dp:Nat)(a:Au):Prop where
 at_:DC st.h.get F dp a
 hi: ∀c,F c→c<st.n
theorem JH.q{st st':St}{F:Fp}{dp:Nat}{a:Au}(hD:JH st F dp a)(q:Qt st st'):JH st' F dp a:=⟨hD.at_.frame fun c hc=>q.Jx c (hD.hi c hc),fun c hc=>Nat.lt_of_lt_of_le (hD.hi c hc) q.le⟩
theorem JH.wf{st:St}{F:Fp}{dp:Nat}(hD:JH st F dp a):ZX a:=by
 obtain⟨_,_,_,_,_,_,_,_,_,_,_,_,_,_,_,h,_⟩:=hD.at_;exact h
theorem Ql.Mk{st0 st:St}{X0 F:Fp}{M:QK}{Os:List Ob}{dp:Nat}(B:Ql st0 X0 st M Os){k:Nat}(hk:Os[k]? =some (A9 F dp a)):JH st F dp a:=⟨B.at_ hk,B.Vx hk⟩
theorem ZX.PB(W:ZX a): ∀r∈a.nx,FU r:=fun r hr z hz=>by
 obtain⟨_,h⟩:=W.row r hr;have:=h z hz;have:=W.most;omega
end
section
open Go Go.RowKit

def W0(h:Hp)(F:Fp)(z:Nat)(ks:AV)(ls:List (List AV)):Prop:= ∃A,Acc 0 z A ks ls∧(∀c m l,(c,m,l)∈A→Qu h c m l∧F c)
def Rj(F:Fp)(z:Nat)(ks:AV)(ls:List (List AV)):Ob:=⟨F,fun h=>W0 h F z ks ls,fun h h' e H=>by
 obtain⟨A,h1,h2⟩:=H
 exact⟨A,h1,fun c m l hm=>⟨(h2 c m l hm).1.frame (e c (h2 c m l hm).2),(h2 c m l hm).2⟩⟩⟩
theorem M6{n0 z:Nat}{A:QK}{ks:AV}{ls:List (List AV)}(hA:Acc n0 z A ks ls):(A.map Prod.fst).Nodup:=by cases hA<;>simp
section
variable {st0 st:St} {X0 F:Fp} {M A:QK} {Os:List Ob} {z:Nat} {ks:AV} {ls:List (List AV)}
theorem W0.rd{h:Hp}(H:W0 h F z ks ls):Jb h [] z ls ks:=by
 obtain⟨A,h1,h2⟩:=H
 cases h1 with
 |none=>exact .nil _ _ _
 |own k1 k2 k3=>exact Jb.own (h2 _ _ _ (List.mem_cons_self ..)).1 k2 Q0 Qe
theorem W0.len{h:Hp}(H:W0 h F z ks ls):JZ ks=some ls.length:=by obtain⟨A,h1,_⟩:=H;exact h1.len
theorem W0.cell{h:Hp}(H:W0 h F z ks ls):Qw ks=true:=by obtain⟨A,h1,_⟩:=H;exact h1.cell
theorem Ql.zY(B:Ql st0 X0 st M (Rj F z ks ls::Os)): ∃A,Acc 0 z A ks ls∧Ql st0 X0 st (A++M) Os:=by
 obtain⟨A,h1,h2⟩:=B.obj _ (List.mem_cons_self ..);have B1:=B.fv (R:=A) (o':=⟨WM,fun _=>True,fun _ _ _ h=>h⟩) h2 (M6 h1) trivial (fun c hc=>hc.elim) (fun c m l _ hc=>hc);exact⟨A,h1,B1.ib (.cons _ (.refl _))⟩
theorem Ql.yc(B:Ql st0 X0 st (A++M) Os)(hA:Acc 0 z A ks ls): ∃F',Ql st0 X0 st M (Rj F' z ks ls::Os):=
 ⟨(ZO A).F,B.freeze (o:=Rj (ZO A).F z ks ls) ⟨A,hA,fun c m l hm=>⟨B.row c m l (by simp[hm]),m,l,hm⟩⟩ fun c hc=>hc⟩
end
end
section
open Go Go.RowKit
variable {l:Nat} {st:St}

def Zx(mp l:Nat)(o:Bool):Ob:=⟨fun c=>c=mp,fun h=>Qu h mp 0 [.int .i64 (l:Nat),.bool o],fun _ _ e H=>H.frame (e mp rfl)⟩
theorem Ql.qk(hf:Qh st){c m:Nat}{l:List AV}(h:Qu st.h.get c m l):Ql st (fun x=>x=c) st [(c,m,l)] []:=
 ⟨hf,Nat.le_refl _,fun c' m' l' h'=>(by injection List.mem_singleton.1 h' with e1 e2;injection e2 with e2 e3;subst e1 e2 e3;exact h),List.nodup_cons.2 ⟨by simp,List.nodup_nil⟩,fun c' m' l' h'=>(by injection List.mem_singleton.1 h' with e1 e2;exact .inr e1),fun o h=>(by cases h),fun o h=>(by cases h),.nil,fun o h=>(by cases h),fun _ _ _=>rfl⟩
def jx(l:Nat)(o:Bool)(n:Nat):Bool:= !o&&decide (n≤l)
def Xh(l:Nat)(o:Bool)(n:Nat):Nat:=if o then l else l-n
def WU(l:Nat)(o:Bool)(n:Nat):Bool:=o||decide (l<n)
theorem xn{n:Nat}(h:n≤l):jx l false n=true:=by simp[jx,h]
theorem TC(l n:Nat):Xh l false n=l-n:=rfl
theorem Ct{n:Nat}(h:n≤l):WU l false n=false:=by simp[WU];omega

theorem xo(hf:Qh st)(n:Int): ∃v st',QP 37 [iZ n] st v st'∧ ∃mp,v=.ptr mp 0 0∧st.n≤mp∧Qu st'.h.get mp 0 [iZ (n.toNat:Nat),.bool false]∧Qt st st':=by
 refine Jy Tryz.func37 Tryz.ntmps37 fun T K=>?_;have M:=Mem.start hf;refine Qa 2 K M fun _ K=>?_;refine p1 K (wX rfl rfl) fun _ K=>?_;refine au 3 K M ?_;intro c6 _ _ K _ M;refine Qa 0 K M ?_;refine⟨c6,rfl,(M.own c6 0 _ (List.mem_cons_self ..)).resolve_right Q0,?_,M.qt⟩;have hr9:=M.Ue (k:=0) rfl
 rwa [show max n 0=((n.toNat:Nat):Int) by omega]at hr9

theorem xl(hf:Qh st){mp:Nat}{o:Bool}(hr:Qu st.h.get mp 0 [iN l,.bool o]): ∃v st',QP 209 [.ptr mp 0 0] st v st'∧v=.bool o∧Qt st st':=by
 refine Jy Tryz.func209 Tryz.ntmps209 fun T K=>?_;have M:=Mem.start hf;refine Qa 2 K M fun _ K=>?_;refine p1 K (U2 He rfl rfl) fun _ K=>?_;refine Qa 4 K M fun _ K=>?_;refine pg K rfl rfl (Qi rfl (Qq (M.QX Q0 hr.QH) (Qb XW rfl))) fun _ K=>?_;refine Qa 2 K M ?_;exact⟨rfl,M.qt⟩

theorem Od(hf:Qh st){mp:Nat}{o:Bool}(hr:Qu st.h.get mp 0 [.int .i64 (l:Nat),.bool o])(hl:l≤9223372036854775807)(n:Nat)(hn:n≤9223372036854775807): ∃v st',QP 157 [.ptr mp 0 0,.int .i64 (n:Nat)] st v st'∧v=.bool (jx l o n)∧(Zx mp (Xh l o n) (WU l o n)).H st'.h.get∧YR (fun c=>c=mp) st st':=by
 have B:=Ql.qk hf hr;refine eY rfl Tryz.func157 rfl Tryz.ntmps157 rfl fun T hT=>?_;have K:QG [(0,_),(1,_)] T:=(.cons (hT 0) (.cons (hT 1) .nil));have M:=B.mem;refine Qa 3 K M fun _ K=>?_;refine Uz K rfl (fun _ e8 K=>?_) fun _ e8 K=>?_
 ·refine Qa 1 K M fun _ K=>?_;obtain⟨v10,st10,ev10,rfl,q10⟩:=xl M.fresh (M.Ue (k:=0) rfl);refine pg K rfl rfl (Qg rfl ev10) fun _ K=>?_;replace M:=M.quiet q10;refine Qa 2 K M fun _ K=>?_;refine Ze K rfl (fun h5=>?_) fun h5=>?_
  ·have hb5:=h5;refine Qa 1 K M ?_;refine⟨congrArg AV.bool ?_,?_,(B.step M).U9⟩
   ·clear M B hr K hT
    cases o<;>simp_all [jx]<;>omega
   ·have hr9:=M.Ue (k:=0) rfl
    have e9:([.int .i64 (Xh l o n:Nat),.bool (WU l o n)]:List AV)=[.int .i64 (l:Nat),.bool o]:=by
     clear M B hr K hT hr9
     cases o<;>simp_all [Xh,WU]<;>omega
    show Qu _ mp 0 [.int .i64 (Xh l o n:Nat),.bool (WU l o n)];rw[e9];exact hr9
  have hb5:=h5;refine Qa 7 K M fun _ K=>?_;refine UA K rfl (fun h12=>?_) fun h12=>?_
  ·refine au 9 K M ?_;intro _ _ K _ M;refine Qa 0 K M ?_;refine⟨congrArg AV.bool ?_,?_,(B.step M).U9⟩
   ·clear M B hr K hT
    cases o<;>simp_all [jx]<;>omega
   ·have hr9:=M.Ue (k:=0) rfl
    have e9:([.int .i64 (Xh l o n:Nat),.bool (WU l o n)]:List AV)=[.int .i64 0,.bool true]:=by
     clear M B hr K hT hr9
     cases o<;>simp_all [Xh,WU]<;>omega
    show Qu _ mp 0 [.int .i64 (Xh l o n:Nat),.bool (WU l o n)];rw[e9];exact hr9
  refine au 10 K M ?_;intro _ _ K _ M;refine Qa 0 K M ?_;refine⟨congrArg AV.bool ?_,?_,(B.step M).U9⟩
  ·clear M B hr K hT
   cases o<;>simp_all [jx]<;>omega
  ·have hr9:=M.Ue (k:=0) rfl
   have e9:([.int .i64 (Xh l o n:Nat),.bool (WU l o n)]:List AV)=[.int .i64 ((((l:Nat):Int)-((n:Nat):Int))),.bool o]:=by
    clear M B hr K hT hr9
    cases o<;>simp_all [Xh,WU]<;>omega
   show Qu _ mp 0 [.int .i64 (Xh l o n:Nat),.bool (WU l o n)];rw[e9];exact hr9
 refine Qa 6 K M ?_;refine⟨congrArg AV.bool ?_,?_,(B.step M).U9⟩
 ·clear M B hr K hT
  cases o<;>simp_all [jx]<;>omega
 ·have hr9:=M.Ue (k:=0) rfl
  have e9:([.int .i64 (Xh l o n:Nat),.bool (WU l o n)]:List AV)=[.int .i64 (l:Nat),.bool o]:=by
   clear M B hr K hT hr9
   cases o<;>simp_all [Xh,WU]<;>omega
  show Qu _ mp 0 [.int .i64 (Xh l o n:Nat),.bool (WU l o n)];rw[e9];exact hr9
end
section
open Go Go.RowKit
variable {LL:List (List Int)} {fa fc:List AV} {fo:FuncId} {kL:AV} {lL:List (List AV)} {st:St}

theorem Y2.qt{st':St}(hf:Qh st)(q:Qt st st'){c m:Nat}{l:List AV}(r:Y2 st.h.get c m l):Y2 st'.h.get c m l:=r.LY hf (q.LY []) Q0
theorem Jb.qt{st':St}(hf:Qh st)(q:Qt st st'){z:Nat}{ls:List (List AV)}{v:AV}(r:Jb st.h.get [] z ls v):Jb st'.h.get [] z ls v:=r.Jx hf fun c hc=>q.Jx c hc

theorem O5(hf:Qh st){l:List Bool}{kl:AV}(hl:Jb st.h.get [] 1 (bC l) kl)(hn:l.length≤1000000): ∃v st',QP 212 [kl] st v st'∧ ∃ks,v=ks∧FT st st' 1 ks (bC l)∧Qt st st':=by
 have hcl:=XK l;refine Jy Tryz.func212 Tryz.ntmps212 fun T K=>?_;have M:=Mem.start hf;refine Qa 2 K M fun _ K=>?_;refine p1 K (NV (hl.len.trans (congrArg some (XK _))) V3 rfl rfl) fun _ K=>?_;refine Qa 0 K M fun _ K=>?_;refine Ze K rfl (fun h4=>?_) fun h4=>?_
 ·have hb4:=h4;refine Qa 1 K M ?_
  have hbl:l=[]:=by
   have h:=hl.len;rw[RK h4]at h
   injection h with h
   rw[XK]at h;exact Ym h.symm
  exact⟨.nils,rfl,⟨[],by rw[hbl];exact .none,fun _ _ _ h=>by cases h⟩,M.qt⟩
 have hb4:=h4;refine au 2 K M ?_;intro c5 _ _ K _ M;replace M:=Mem.cast (M':=([(c5,0,[])]++[])) (Mem.perm M (List.perm_append_comm (α:=Nat×Nat×List AV) (l₁:=[(c5,0,[])]) (l₂:=[]))) Zr;have hA0c5:Acc st.n 1 [(c5,0,[])] (.sl c5 0 0 0 1) []:=Acc.own (n0:=st.n) (z:=1) (c:=c5) (m:=0) (ls:=[]) ((M.own c5 0 [] Q0).resolve_right Q0) Q0 Q0;refine Rs (L:=[]) (A:=[(c5,0,[])]) (B:=[]) K M hA0c5 UP rfl rfl (Jb.mem M hl Q0) (aB _) (by simp only[List.length_nil];omega) rfl fun ks7 A7 _ _ K hA7 M=>?_;refine Qa 1 K M ?_;refine⟨_,rfl,?_,M.qt⟩;have h:=Mem.xg (L:=[]) (B:=[]) M hA7
 simpa using h

theorem TS(hf:Qh st)(hLL:MD st.h.get LL kL lL){p:List Int→Bool}(hC: ∀(s:List Int) (w:AV) (st1:St),s∈LL→Qt st st1→Jb st1.h.get [] 1 (zC s) w→ ∃v st',QP fo (fa++([w]++fc)) st1 v st'∧v=.bool (p s)∧Qt st1 st'): ∃v st',QP 309 [kL,(AV.fn fo fa fc)] st v st'∧v=iZ (EL p LL 0)∧Qt st st':=by
 have hLb:=hLL.r.FP;rw[hLL.ln]at hLb;refine Jy Tryz.func309 Tryz.ntmps309 fun T K=>?_;have M:=Mem.start hf;refine Qa 2 K M fun _ K=>?_;refine p1 K (Q7 UD rfl rfl hLL.len) fun _ K=>?_;refine Qa 1 K M fun _ K=>?_;refine Jc (fun mm1 T st9=> ∃(i:Nat),mm1=LL.length-i∧QG [(0,kL),(1,(AV.fn fo fa fc)),(7,iZ (LL.length:Nat)),(8,iN i)] T∧Mem st.h.get st.n [] st9 []∧i≤LL.length∧EL p LL 0=EL p (LL.drop i) i) (fun mm1 T st9 hI=>?_) _ _ _ ⟨0,rfl,(K.sub rfl),M.less (.refl _),(Nat.zero_le _),rfl⟩;obtain⟨i,rfl,K,M,hi,hx⟩:=hI;refine Qa 1 K M fun _ K=>?_;refine UA K rfl (fun h9=>?_) fun h9=>?_
 ·refine Qa 5 K M fun _ K=>?_;obtain⟨s14,hi14⟩:=YY LL i Qe;obtain⟨_,hc14,w14,rfl,hr14,hz14⟩:=hLL.at_ _ _ hi14;refine oI (Jb.mem M hLL.r Q0) hc14 K J4 Jd rfl rfl rfl fun _ _ _ _ K=>?_;obtain⟨v16,st16,ev16,rfl,q16⟩:=hC s14 _ _ (List.mem_of_getElem? hi14) M.qt (Jb.mem M hr14 Q0);refine p1 K (Zj rfl rfl ev16) fun _ K=>?_;replace M:=M.quiet q16;refine Qa 0 K M fun _ K=>?_;refine Ze K rfl (fun h16=>?_) fun h16=>?_
  ·have hb16:=h16;refine Qa 2 K M ?_;exact⟨by rw[hx,E7 hi14,if_pos h16],M.qt⟩
  have hb16:=h16;refine Qa 2 K M fun _ K=>?_;exact⟨_,Qe,i+1,rfl,(K.sub rfl),M.less (.refl _),Qe,(by rw[hx,E7 hi14,if_neg (by rw[h16];decide)])⟩
 refine QT ?_;show W _ _ _ _ _ _ _;refine Qa 1 K M ?_;exact⟨by rw[hx,CF Qe],M.qt⟩

theorem GS(hf:Qh st)(hLL:MD st.h.get LL kL lL){p:List Int→Bool}(hC: ∀(s:List Int) (w:AV) (st1:St),s∈LL→Qt st st1→Jb st1.h.get [] 1 (zC s) w→ ∃v st',QP fo (fa++([w]++fc)) st1 v st'∧v=.bool (p s)∧Qt st1 st'): ∃v st',QP 289 [kL,(AV.fn fo fa fc)] st v st'∧v=.bool (LL.any p)∧Qt st st':=by
 have hLb:=hLL.r.FP;rw[hLL.ln]at hLb;refine Jy Tryz.func289 Tryz.ntmps289 fun T K=>?_;have M:=Mem.start hf;refine Qa 3 K M fun _ K=>?_;refine oQ K M (TS M.fresh (hLL.Jx hf fun c hc=>M.Jx c hc Q0) (fun s w st1 hs q hr=>hC s w st1 hs (M.qt.trans q) hr)) rfl rfl fun _ _ K M=>?_;refine Qa 2 K M ?_;exact⟨by rw[←CG p LL 0],M.qt⟩

theorem GR(hf:Qh st)(hLL:MD st.h.get LL kL lL)(hC: ∀(s:List Int) (w:AV) (st1:St),s∈LL→Qt st st1→Jb st1.h.get [] 1 (zC s) w→ ∃v st',QP fo (fa++([w]++fc)) st1 v st'∧v=.bool false∧Qt st1 st'): ∃v st',QP 289 [kL,.fn fo fa fc] st v st'∧v=.bool false∧Qt st st':=by
 obtain⟨v,st',h1,h2,h3⟩:=GS (p:=fun _=>false) hf hLL hC;exact⟨v,st',h1,by rw[h2];simp,h3⟩

theorem eT(hf:Qh st){cn:Nat}{n x:Int}(hc:Y2 st.h.get cn 0 [iZ n])(h1:0≤x)(h2:x<n): ∃v st',QP 288 [iZ x,.ptr cn 0 0] st v st'∧v=.bool false∧Qt st st':=by
 refine Jy Tryz.func288 Tryz.ntmps288 fun T K=>?_;have M:=Mem.start hf;refine Qa 3 K M fun _ K=>?_;refine Uz K rfl (fun _ e6 K=>?_) fun _ e6 K=>?_
 ·refine Qa 1 K M fun _ K=>?_;refine pg K rfl rfl (Qi rfl (Qq (M.QX Q0 hc) (Qb Qr rfl))) fun _ K=>?_;refine Qa 3 K M ?_;exact⟨congrArg AV.bool (decide_eq_false Qe),M.qt⟩
 exfalso;omega

theorem eS(hf:Qh st){a:Au}(wf:ZX a){ka kn:AV}{ca cf cn:Nat}(hca:Y2 st.h.get ca 0 [iZ (a.tr:Nat),ka,kn])(hcf:Y2 st.h.get cf 0 [.fn 288 [] [.ptr cn 0 0]])(hcn:Y2 st.h.get cn 0 [iZ (a.n:Nat)]){r:List Int}{kl:AV}(hm:r∈a.nx)(hl:Jb st.h.get [] 1 (zC r) kl): ∃v st',QP 290 [kl,.ptr ca 0 0,.ptr cf 0 0] st v st'∧v=.bool false∧Qt st st':=by
 obtain⟨hr1,hr2⟩:=wf.row r hm;have hp:=JE wf.tr;have hr1':r.length=2^a.tr:=hr1;have htr:=wf.tr;refine Jy Tryz.func290 Tryz.ntmps290 fun T K=>?_;have M:=Mem.start hf;refine Qa 2 K M fun _ K=>?_;refine p1 K (Q7 Jr rfl rfl (hl.len.trans (congrArg some (Qz _)))) fun _ K=>?_;refine Qa 1 K M fun _ K=>?_;refine p1 K (Qi rfl (Qq (M.QX Q0 hca) (Qb Qr rfl))) fun _ K=>p1 K (ZB (n:=a.tr) rfl rfl Qe) fun _ K=>?_;refine Qa 1 K M fun _ K=>?_;refine oB K (Q8 rfl) rfl fun b11 _ e11 K=>?_;cases b11
 ·replace e11:(((r.length:Nat):Int)=((2^a.tr:Nat):Int)):=by simpa using e11
  refine Qa 1 K M fun _ K=>?_;refine pg K rfl rfl (Qi rfl (Qq (M.QX Q0 hcf) (Qb AX rfl))) fun _ K=>?_;obtain⟨v14,st14,ev14,rfl,q14⟩:=FL (fo:=288) (fa:=[]) (fc:=[.ptr cn 0 0]) M.fresh (Jb.mem M hl Q0) Qe (fun x hx st1 q=>eT q.fresh ((hcn.qt hf M.qt).qt M.fresh q) (hr2 x hx).1 (hr2 x hx).2);refine pg K rfl rfl (Qg rfl ev14) fun _ K=>?_;replace M:=M.quiet q14;refine Qa 2 K M ?_;exact⟨rfl,M.qt⟩
 replace e11: ¬(((r.length:Nat):Int)=((2^a.tr:Nat):Int)):=by simpa using e11
 exfalso;omega

theorem aO(hf:Qh st){a:Au}(wf:ZX a){ka kn:AV}{ls:List (List AV)}(hA:Jb st.h.get [] 1 (bC a.acc) ka)(hN:MD st.h.get a.nx kn ls): ∃v st',QP 260 [.agg [iZ (a.tr:Nat),ka,kn]] st v st'∧v=.bool true∧Qt st st':=by
 have htr:=wf.tr;have hps:=wf.pos;have hmo:=wf.most;have hln:=wf.len;have hen:a.n=a.acc.length:=rfl;have hac:=hA.cell;have hnc:=hN.r.cell;refine Jy Tryz.func260 Tryz.ntmps260 fun T K=>?_;have M:=Mem.start hf;refine Qa 0 K M fun _ K=>?_;refine Uj K M rfl (Qc rfl (Qc hA.cell (Qc hN.r.cell QY))) QA fun c1 _ _ K M=>?_;refine Qa 3 K M fun _ K=>?_;refine p1 K (Q7 V3 rfl rfl (hA.len.trans (congrArg some (XK _)))) fun _ K=>?_;refine au 5 K M ?_;intro c3 _ _ K _ M;refine Uz K rfl (fun _ e11 K=>?_) fun _ e11 K=>?_
 ·refine Qa 4 K M fun _ K=>?_;refine Uz K rfl (fun _ e16 K=>?_) fun _ e16 K=>?_
  ·refine Qa 3 K M fun _ K=>?_;refine Uz K rfl (fun _ e20 K=>?_) fun _ e20 K=>?_
   ·refine Qa 3 K M fun _ K=>?_;refine Uz K rfl (fun _ e24 K=>?_) fun _ e24 K=>?_
    ·refine Qa 1 K M fun _ K=>?_;refine pg K rfl rfl (Qi rfl (M.load (k:=1) rfl (Qb QO rfl))) fun _ K=>pg K rfl rfl (Q7 UD rfl rfl hN.len) fun _ K=>?_;refine Qa 3 K M fun _ K=>?_;refine iR K rfl (fun h30=>?_) fun h30=>?_
     ·exfalso;omega
     refine Qa 0 K M fun _ K=>?_;refine p1 K (Yr rfl rfl) fun _ K=>?_;refine Bu K M AQ QA fun c4 _ _ K M=>?_;refine Yf (k:=0) K M rfl rfl rfl Fa rfl rfl rfl fun _ M=>?_;refine Qa 1 K M fun _ K=>?_;refine p1 K (Qi rfl (M.load (k:=2) rfl (Qb QO rfl))) fun _ K=>p1 K (Yr rfl rfl) fun _ K=>?_;have hrw1:=(M.Ue (k:=2) rfl).QH;have hrw3:=(M.Ue (k:=1) rfl).QH;have hrw4:=(M.Ue (k:=0) rfl).QH;have hfr:=M.fresh;refine oQ K M (GR (fo:=290) (fa:=[]) (fc:=[.ptr c1 0 0,.ptr c4 0 0]) M.fresh (hN.Jx hf fun c hc=>M.Jx c hc Q0) (fun s w st1 hs q hr=>eS q.fresh wf (hrw1.qt hfr q) (hrw4.qt hfr q) (hrw3.qt hfr q) hs hr)) rfl rfl fun _ _ K M=>?_;refine Qa 2 K M ?_;exact⟨rfl,M.qt⟩
    exfalso;omega
   exfalso;omega
  exfalso;omega
 exfalso;omega
end
end Go.Proofs.YtildagdnomiahaaGreatDoor
