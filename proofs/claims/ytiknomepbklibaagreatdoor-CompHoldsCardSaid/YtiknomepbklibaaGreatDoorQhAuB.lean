/-
  Facts on the program's types.
-/
import Derived.Test.YtiknomepbklibaaGreatDoorQhBdB
set_option maxRecDepth 100000
set_option maxHeartbeats 8000000
set_option linter.unnecessarySimpa false
set_option linter.unusedSimpArgs false
set_option linter.unusedVariables false
namespace Go.Proofs.YtiknomepbklibaaGreatDoor
section
open Go

theorem Hz:tk Tryz.prog 52=.one:=by kernel_rfl
theorem H6:YM Tryz.prog 52=some 1:=by kernel_rfl
theorem Hv:zeroOf Tryz.prog 52=some [.nilf]:=by kernel_rfl
end
section
open Go

theorem YJ:tk Tryz.prog 93=.one:=by kernel_rfl
theorem J6:tk Tryz.prog 179=.one:=by kernel_rfl
theorem Xr:tk Tryz.prog 200=.one:=by kernel_rfl
end
section
open Go Go.RowKit
variable {a:Au}

def bC(l:List Bool):List (List AV):=l.map fun b=>[AV.bool b]
theorem Uq(l:List Bool):(bC l).length=l.length:=by simp[bC]
theorem Ww{l:List Bool}{i:Nat}{b:Bool}(h:l[i]? =some b):(bC l)[i]? =some [AV.bool b]:=by rw[bC,List.getElem?_map,h];rfl
theorem XS(a b:List Bool):bC (a++b)=bC a++bC b:=by simp[bC]
theorem zk(l:List Bool): ∀cs∈bC l,cs.length=1:=by
 intro cs h;obtain⟨s,_,rfl⟩:=List.mem_map.1 h;rfl
def zF(F:Fp)(v:AV):Prop:= ∀c m o n y,v=.sl c m o n y→F c
theorem Acc.vj{n0 z:Nat}{A:QS}{kr:AV}{ls:List (List AV)}(hA:Acc n0 z A kr ls):zF (Xn A).F kr:=fun c m o n y e=>by
 cases hA with
 |none=>cases e
 |own h1 h2 h3=>injection e with e1 e2;subst e1;exact⟨_,_,List.mem_cons_self ..⟩
theorem YS.vj{A:QS}{kr:AV}{vs:List AV}(hA:YS A kr vs):zF (Xn A).F kr:=fun c m o n y e=>by
 cases hA with
 |none=>cases e
 |own h3=>injection e with e1 e2;subst e1;exact⟨_,_,List.mem_cons_self ..⟩
structure Zl(h:Hp)(F:Fp)(vs:List AV)(LL:List (List Int)):Prop where
 ln:vs.length=LL.length
 at_: ∀(i:Nat) (s:List Int),LL[i]? =some s→ ∃v,vs[i]? =some v∧Jj h [] 1 (zC s) v∧Xx s∧zF F v
theorem Zl.frame{h h':Hp}{F:Fp}{vs:List AV}{LL:List (List Int)}(e: ∀c,F c→h' c=h c)(H:Zl h F vs LL):Zl h' F vs LL:=
 ⟨H.ln,fun i s hi=>by
  obtain⟨v,h1,h2,h3,h4⟩:=H.at_ i s hi
  exact⟨v,h1,h2.frame fun c m o n y e'=>e c (h4 c m o n y e'),h3,h4⟩⟩
def ES(F:Fp)(vs:List AV)(LL:List (List Int)):Ob:=⟨F,fun h=>Zl h F vs LL,fun _ _ e H=>H.frame e⟩
structure Xw(h:Hp)(F:Fp)(kn:AV)(vs:List AV)(LL:List (List Int)):Prop where
 rd:Jj h [] 1 (vs.map fun v=>[v]) kn
 vs:Zl h F vs LL
 out:zF F kn
theorem Xw.frame{h h':Hp}{F:Fp}{kn:AV}{vs:List AV}{LL:List (List Int)}(e: ∀c,F c→h' c=h c)(H:Xw h F kn vs LL):Xw h' F kn vs LL:=
 ⟨H.rd.frame fun c m o n y e'=>e c (H.out c m o n y e'),H.vs.frame e,H.out⟩
def BY(F:Fp)(kn:AV)(vs:List AV)(LL:List (List Int)):Ob:=⟨F,fun h=>Xw h F kn vs LL,fun _ _ e H=>H.frame e⟩
theorem Xw.r{h:Hp}{F:Fp}{kn:AV}{vs:List AV}{LL:List (List Int)}(H:Xw h F kn vs LL):O6 h LL kn (vs.map fun v=>[v]):=by
 refine⟨H.rd,by rw[List.length_map];exact H.vs.ln,fun i s hi=>?_⟩;obtain⟨v,k1,k2,k3,_⟩:=H.vs.at_ i s hi;exact⟨[v],by rw[List.getElem?_map,k1];rfl,v,rfl,k2,k3⟩
theorem Xw.len{h:Hp}{F:Fp}{kn:AV}{vs:List AV}{LL:List (List Int)}(H:Xw h F kn vs LL):YE kn=some LL.length:=H.r.len
section
variable {st0 st:St} {X0:Fp} {L A B M:QS} {Os:List Ob} {F:Fp} {vs:List AV} {LL:List (List Int)} {kr kn:AV} {row:List Int}
theorem Qk.ic{A B:QS}(H:Qk st0 X0 st (L++(A++B)) Os):Qk st0 X0 st (A++(L++B)) Os:=H.perm (by rw[←List.append_assoc,←List.append_assoc];exact List.perm_append_comm.append_right B)
theorem Qk.V7(B:Qk st0 X0 st M Os):Qk st0 X0 st M (ES Xi [] []::Os):=
 B.new ⟨B.fresh,Nat.le_refl _,fun _ _=>rfl⟩ ⟨rfl,fun i s hi=>by simp at hi⟩ fun c hc=>hc.elim
theorem Qk.ZD(H:Qk st0 X0 st (L++(A++B)) (ES F vs LL::Os)){n0:Nat}(hA:Acc n0 1 A kr (zC row))(hz:Xx row): ∃F',Qk st0 X0 st (L++B) (ES F' (vs++[kr]) (LL++[row])::Os):=by
 have hr:Jj st.h.get [] 1 (zC row) kr:=Mem.Y6 H.mem hA;have hin:=hA.vj;have B1:=H.ic.freeze (o:=⟨(Xn A).F,fun h=>Jj h [] 1 (zC row) kr,fun h h' e r=>r.frame fun c m o n y e'=>e c (hin c m o n y e')⟩) hr (fun c hc=>hc);refine⟨fun c=>(Xn A).F c∨F c,B1.join (fun h1 h2=>⟨by rw[List.length_append,List.length_append,h2.ln];rfl,fun i s hi=>?_⟩) fun c hc=>hc⟩
 by_cases hl:i<LL.length
 ·rw[List.getElem?_append_left hl]at hi;obtain⟨v,k1,k2,k3,k4⟩:=h2.at_ i s hi;exact⟨v,by rw[List.getElem?_append_left (by rw[h2.ln];exact hl)];exact k1,k2,k3,fun c m o n y e=>.inr (k4 c m o n y e)⟩
 ·have hlt:=(List.getElem?_eq_some_iff.1 hi).1;rw[List.length_append,List.length_singleton]at hlt
  have hl:i=LL.length:=by omega
  subst hl;rw[List.getElem?_append_right (Nat.le_refl _),Nat.sub_self]at hi
  injection hi with hi
  subst hi;exact⟨kr,by rw[List.getElem?_append_right (by rw[h2.ln];exact Nat.le_refl _),h2.ln,Nat.sub_self];rfl,h1,hz,fun c m o n y e=>.inl (hin c m o n y e)⟩
theorem Qk.Bt(H:Qk st0 X0 st (L++(A++B)) (ES F vs LL::Os))(hA:YS A kn vs): ∃F',Qk st0 X0 st (L++B) (BY F' kn vs LL::Os):=by
 have hr:Jj st.h.get [] 1 (vs.map fun v=>[v]) kn:=hA.rd fun c m l hm=>H.row c m l (by simp[hm]);have hin:=hA.vj;have B1:=H.ic.freeze (o:=⟨(Xn A).F,fun h=>Jj h [] 1 (vs.map fun v=>[v]) kn,fun h h' e r=>r.frame fun c m o n y e'=>e c (hin c m o n y e')⟩) hr (fun c hc=>hc);refine⟨fun c=>(Xn A).F c∨F c,B1.join (fun h1 h2=>⟨h1,⟨h2.ln,fun i s hi=>?_⟩,fun c m o n y e=>.inl (hin c m o n y e)⟩) fun c hc=>hc⟩;obtain⟨v,k1,k2,k3,k4⟩:=h2.at_ i s hi;exact⟨v,k1,k2,k3,fun c m o n y e=>.inr (k4 c m o n y e)⟩
end
def PJ(h:Hp)(F:Fp)(dp:Nat)(a:Au):Prop:=
 ∃(ka kr:AV) (sp:Nat) (F1:Fp) (S:U8) (roots:List Nat),Qy h dp 0 [ka,kr,.ptr sp 0 0]∧F dp∧Jj h [] 1 (bC a.acc) ka∧zF F ka∧Jj h [] 1 (zC (roots.map fun r=>((r:Nat):Int))) kr∧zF F kr∧AJ h F1 sp a.tr S∧(∀c,F1 c→F c)∧Xk a.tr S∧Zs a∧roots.length=a.n∧
  ∀(s r:Nat),roots[s]? =some r→r<S.length∧a.nx[s]? =some (WE a.tr S r)
theorem PJ.frame{h h':Hp}{F:Fp}{dp:Nat}{a:Au}(e: ∀c,F c→h' c=h c)(H:PJ h F dp a):PJ h' F dp a:=by
 obtain⟨ka,kr,sp,F1,S,roots,h1,h2,h3,h4,h5,h6,h7,h8,h9⟩:=H;exact⟨ka,kr,sp,F1,S,roots,h1.frame (e dp h2),h2,h3.frame fun c m o n y e'=>e c (h4 c m o n y e'),h4,h5.frame fun c m o n y e'=>e c (h6 c m o n y e'),h6,h7.frame fun c hc=>e c (h8 c hc),h8,h9⟩
def Ip(F:Fp)(dp:Nat)(a:Au):Ob:=⟨F,fun h=>PJ h F dp a,fun _ _ e H=>H.frame e⟩
structure UZ(st:St)(F:Fp)(dp:Nat)(a:Au):Prop where
 at_:PJ st.h.get F dp a
 hi: ∀c,F c→c<st.n
theorem UZ.q{st st':St}{F:Fp}{dp:Nat}{a:Au}(hD:UZ st F dp a)(q:Qt st st'):UZ st' F dp a:=⟨hD.at_.frame fun c hc=>q.JB c (hD.hi c hc),fun c hc=>Nat.lt_of_lt_of_le (hD.hi c hc) q.le⟩
theorem UZ.wf{st:St}{F:Fp}{dp:Nat}(hD:UZ st F dp a):Zs a:=by
 obtain⟨_,_,_,_,_,_,_,_,_,_,_,_,_,_,_,h,_⟩:=hD.at_;exact h
theorem Qk.ja{st0 st:St}{X0 F:Fp}{M:QS}{Os:List Ob}{dp:Nat}(B:Qk st0 X0 st M Os){k:Nat}(hk:Os[k]? =some (Ip F dp a)):UZ st F dp a:=⟨B.at_ hk,B.Y4 hk⟩
theorem Zs.Fx(W:Zs a): ∀r∈a.nx,Xx r:=fun r hr z hz=>by
 obtain⟨_,h⟩:=W.row r hr;have:=h z hz;have:=W.most;omega
end
section
open Go Go.RowKit

def Ya(h:Hp)(F:Fp)(z:Nat)(ks:AV)(ls:List (List AV)):Prop:= ∃A,Acc 0 z A ks ls∧(∀c m l,(c,m,l)∈A→Qy h c m l∧F c)
def Wz(F:Fp)(z:Nat)(ks:AV)(ls:List (List AV)):Ob:=⟨F,fun h=>Ya h F z ks ls,fun h h' e H=>by
 obtain⟨A,h1,h2⟩:=H
 exact⟨A,h1,fun c m l hm=>⟨(h2 c m l hm).1.frame (e c (h2 c m l hm).2),(h2 c m l hm).2⟩⟩⟩
theorem qS{n0 z:Nat}{A:QS}{ks:AV}{ls:List (List AV)}(hA:Acc n0 z A ks ls):(A.map Prod.fst).Nodup:=by cases hA<;>simp
section
variable {st0 st:St} {X0 F:Fp} {M A:QS} {Os:List Ob} {z:Nat} {ks:AV} {ls:List (List AV)}
theorem Ya.rd{h:Hp}(H:Ya h F z ks ls):Jj h [] z ls ks:=by
 obtain⟨A,h1,h2⟩:=H
 cases h1 with
 |none=>exact .nil _ _ _
 |own k1 k2 k3=>exact Jj.own (h2 _ _ _ (List.mem_cons_self ..)).1 k2 Q7 Qc
theorem Ya.len{h:Hp}(H:Ya h F z ks ls):YE ks=some ls.length:=by obtain⟨A,h1,_⟩:=H;exact h1.len
theorem Ya.cell{h:Hp}(H:Ya h F z ks ls):Qs ks=true:=by obtain⟨A,h1,_⟩:=H;exact h1.cell
theorem Qk.BK(B:Qk st0 X0 st M (Wz F z ks ls::Os)): ∃A,Acc 0 z A ks ls∧Qk st0 X0 st (A++M) Os:=by
 obtain⟨A,h1,h2⟩:=B.obj _ (List.mem_cons_self ..);have B1:=B.wC (R:=A) (o':=⟨Xi,fun _=>True,fun _ _ _ h=>h⟩) h2 (qS h1) trivial (fun c hc=>hc.elim) (fun c m l _ hc=>hc);exact⟨A,h1,B1.ND (.cons _ (.refl _))⟩
theorem Qk.VJ(B:Qk st0 X0 st (A++M) Os)(hA:Acc 0 z A ks ls): ∃F',Qk st0 X0 st M (Wz F' z ks ls::Os):=
 ⟨(Xn A).F,B.freeze (o:=Wz (Xn A).F z ks ls) ⟨A,hA,fun c m l hm=>⟨B.row c m l (by simp[hm]),m,l,hm⟩⟩ fun c hc=>hc⟩
end
end
section
open Go Go.RowKit
variable {l:Nat} {st:St}

def Yt(mp l:Nat)(o:Bool):Ob:=⟨fun c=>c=mp,fun h=>Qy h mp 0 [.int .i64 (l:Nat),.bool o],fun _ _ e H=>H.frame (e mp rfl)⟩
theorem Qk.H8(hf:Qi st){c m:Nat}{l:List AV}(h:Qy st.h.get c m l):Qk st (fun x=>x=c) st [(c,m,l)] []:=
 ⟨hf,Nat.le_refl _,fun c' m' l' h'=>(by injection List.mem_singleton.1 h' with e1 e2;injection e2 with e2 e3;subst e1 e2 e3;exact h),List.nodup_cons.2 ⟨by simp,List.nodup_nil⟩,fun c' m' l' h'=>(by injection List.mem_singleton.1 h' with e1 e2;exact .inr e1),fun o h=>(by cases h),fun o h=>(by cases h),.nil,fun o h=>(by cases h),fun _ _ _=>rfl⟩
def BV(l:Nat)(o:Bool)(n:Nat):Bool:= !o&&decide (n≤l)
def UQ(l:Nat)(o:Bool)(n:Nat):Nat:=if o then l else l-n
def Zu(l:Nat)(o:Bool)(n:Nat):Bool:=o||decide (l<n)
theorem Tz{n:Nat}(h:n≤l):BV l false n=true:=by simp[BV,h]
theorem GB(l n:Nat):UQ l false n=l-n:=rfl
theorem HS{n:Nat}(h:n≤l):Zu l false n=false:=by simp[Zu];omega

theorem T0(hf:Qi st)(n:Int): ∃v st',Jh 11 [iZ n] st v st'∧ ∃mp,v=.ptr mp 0 0∧st.n≤mp∧Qy st'.h.get mp 0 [iZ (n.toNat:Nat),.bool false]∧Qt st st':=by
 refine JA Tryz.func11 Tryz.ntmps11 fun T K=>?_;have M:=Mem.start hf;refine Qb 2 K M fun _ K=>?_;refine p1 K (uc rfl rfl) fun _ K=>?_;refine au 3 K M ?_;intro c6 _ _ K _ M;refine Qb 0 K M ?_;refine⟨c6,rfl,(M.own c6 0 _ (List.mem_cons_self ..)).resolve_right Q7,?_,M.qt⟩;have hr9:=M.Yb (k:=0) rfl
 rwa [show max n 0=((n.toNat:Nat):Int) by omega]at hr9

theorem va(hf:Qi st){mp:Nat}{o:Bool}(hr:Qy st.h.get mp 0 [iN l,.bool o]): ∃v st',Jh 88 [.ptr mp 0 0] st v st'∧v=.bool o∧Qt st st':=by
 refine JA Tryz.func88 Tryz.ntmps88 fun T K=>?_;have M:=Mem.start hf;refine Qb 2 K M fun _ K=>?_;refine p1 K (Yh I4 rfl rfl) fun _ K=>?_;refine Qb 4 K M fun _ K=>?_;refine pg K rfl rfl (Qf rfl (Qx (M.JH Q7 hr.Jd) (Qd J7 rfl))) fun _ K=>?_;refine Qb 2 K M ?_;exact⟨rfl,M.qt⟩

theorem GA(hf:Qi st){mp:Nat}{o:Bool}(hr:Qy st.h.get mp 0 [.int .i64 (l:Nat),.bool o])(hl:l≤9223372036854775807)(n:Nat)(hn:n≤9223372036854775807): ∃v st',Jh 62 [.ptr mp 0 0,.int .i64 (n:Nat)] st v st'∧v=.bool (BV l o n)∧(Yt mp (UQ l o n) (Zu l o n)).H st'.h.get∧US (fun c=>c=mp) st st':=by
 have B:=Qk.H8 hf hr;refine Ci rfl Tryz.func62 rfl Tryz.ntmps62 rfl fun T hT=>?_;have K:QT [(0,_),(1,_)] T:=(.cons (hT 0) (.cons (hT 1) .nil));have M:=B.mem;refine Qb 3 K M fun _ K=>?_;refine Uj K rfl (fun _ e8 K=>?_) fun _ e8 K=>?_
 ·refine Qb 1 K M fun _ K=>?_;obtain⟨v10,st10,ev10,rfl,q10⟩:=va M.fresh (M.Yb (k:=0) rfl);refine pg K rfl rfl (Qg rfl ev10) fun _ K=>?_;replace M:=M.quiet q10;refine Qb 2 K M fun _ K=>?_;refine Qp (K.QG rfl) (fun h5=>?_) (fun h5=>?_)
  ·have hb5:=h5;refine Qb 1 K M ?_;refine⟨congrArg AV.bool ?_,?_,(B.step M).JN⟩
   ·clear M B hr K hT
    cases o<;>simp_all [BV]<;>omega
   ·have hr9:=M.Yb (k:=0) rfl
    have e9:([.int .i64 (UQ l o n:Nat),.bool (Zu l o n)]:List AV)=[.int .i64 (l:Nat),.bool o]:=by
     clear M B hr K hT hr9
     cases o<;>simp_all [UQ,Zu]<;>omega
    show Qy _ mp 0 [.int .i64 (UQ l o n:Nat),.bool (Zu l o n)];rw[e9];exact hr9
  have hb5:=h5;refine Qb 7 K M fun _ K=>?_;refine Jy K rfl (fun h12=>?_) fun h12=>?_
  ·refine au 9 K M ?_;intro _ _ K _ M;refine Qb 0 K M ?_;refine⟨congrArg AV.bool ?_,?_,(B.step M).JN⟩
   ·clear M B hr K hT
    cases o<;>simp_all [BV]<;>omega
   ·have hr9:=M.Yb (k:=0) rfl
    have e9:([.int .i64 (UQ l o n:Nat),.bool (Zu l o n)]:List AV)=[.int .i64 0,.bool true]:=by
     clear M B hr K hT hr9
     cases o<;>simp_all [UQ,Zu]<;>omega
    show Qy _ mp 0 [.int .i64 (UQ l o n:Nat),.bool (Zu l o n)];rw[e9];exact hr9
  refine au 10 K M ?_;intro _ _ K _ M;refine Qb 0 K M ?_;refine⟨congrArg AV.bool ?_,?_,(B.step M).JN⟩
  ·clear M B hr K hT
   cases o<;>simp_all [BV]<;>omega
  ·have hr9:=M.Yb (k:=0) rfl
   have e9:([.int .i64 (UQ l o n:Nat),.bool (Zu l o n)]:List AV)=[.int .i64 ((((l:Nat):Int)-((n:Nat):Int))),.bool o]:=by
    clear M B hr K hT hr9
    cases o<;>simp_all [UQ,Zu]<;>omega
   show Qy _ mp 0 [.int .i64 (UQ l o n:Nat),.bool (Zu l o n)];rw[e9];exact hr9
 refine Qb 6 K M ?_;refine⟨congrArg AV.bool ?_,?_,(B.step M).JN⟩
 ·clear M B hr K hT
  cases o<;>simp_all [BV]<;>omega
 ·have hr9:=M.Yb (k:=0) rfl
  have e9:([.int .i64 (UQ l o n:Nat),.bool (Zu l o n)]:List AV)=[.int .i64 (l:Nat),.bool o]:=by
   clear M B hr K hT hr9
   cases o<;>simp_all [UQ,Zu]<;>omega
  show Qy _ mp 0 [.int .i64 (UQ l o n:Nat),.bool (Zu l o n)];rw[e9];exact hr9
end
section
open Go Go.RowKit
variable {l mp:Nat} {st:St}

theorem Dp(hf:Qi st)(n:Int): ∃v st',Jh 46 [iZ n] st v st'∧ ∃mp,v=.ptr mp 0 0∧st.n≤mp∧Qy st'.h.get mp 0 [iZ (n.toNat:Nat),.bool false]∧Qt st st':=by
 refine JA Tryz.func46 Tryz.ntmps46 fun T K=>?_;have M:=Mem.start hf;refine Qb 2 K M fun _ K=>?_;refine p1 K (uc rfl rfl) fun _ K=>?_;refine au 3 K M ?_;intro c6 _ _ K _ M;refine Qb 0 K M ?_;refine⟨c6,rfl,(M.own c6 0 _ (List.mem_cons_self ..)).resolve_right Q7,?_,M.qt⟩;have hr9:=M.Yb (k:=0) rfl
 rwa [show max 0 n=((n.toNat:Nat):Int) by omega]at hr9

theorem Ng(hf:Qi st){o:Bool}(hr:Qy st.h.get mp 0 [.int .i64 (l:Nat),.bool o])(hl:l≤9223372036854775807)(n:Nat)(hn:n≤9223372036854775807): ∃v st',Jh 72 [.ptr mp 0 0,.int .i64 (n:Nat)] st v st'∧v=.bool (BV l o n)∧(Yt mp (UQ l o n) (Zu l o n)).H st'.h.get∧US (fun c=>c=mp) st st':=by
 have B:=Qk.H8 hf hr;refine Ci rfl Tryz.func72 rfl Tryz.ntmps72 rfl fun T hT=>?_;have K:QT [(0,_),(1,_)] T:=(.cons (hT 0) (.cons (hT 1) .nil));have M:=B.mem;refine Qb 3 K M fun _ K=>?_;refine Uj K rfl (fun _ e7 K=>?_) fun _ e7 K=>?_
 ·refine Qb 5 K M fun _ K=>?_;refine Qp (K.QG rfl) (fun h12=>?_) (fun h12=>?_)
  ·have hb12:=h12;refine Qb 1 K M ?_;refine⟨congrArg AV.bool ?_,?_,(B.step M).JN⟩
   ·clear M B hr K hT
    cases o<;>simp_all [BV]<;>omega
   ·have hr9:=M.Yb (k:=0) rfl
    have e9:([.int .i64 (UQ l o n:Nat),.bool (Zu l o n)]:List AV)=[.int .i64 (l:Nat),.bool o]:=by
     clear M B hr K hT hr9
     cases o<;>simp_all [UQ,Zu]<;>omega
    show Qy _ mp 0 [.int .i64 (UQ l o n:Nat),.bool (Zu l o n)];rw[e9];exact hr9
  have hb12:=h12;refine Qb 6 K M fun _ K=>?_;refine Jy K rfl (fun h18=>?_) fun h18=>?_
  ·refine au 9 K M ?_;intro _ _ K _ M;refine Qb 0 K M ?_;refine⟨congrArg AV.bool ?_,?_,(B.step M).JN⟩
   ·clear M B hr K hT
    cases o<;>simp_all [BV]<;>omega
   ·have hr9:=M.Yb (k:=0) rfl
    have e9:([.int .i64 (UQ l o n:Nat),.bool (Zu l o n)]:List AV)=[.int .i64 0,.bool true]:=by
     clear M B hr K hT hr9
     cases o<;>simp_all [UQ,Zu]<;>omega
    show Qy _ mp 0 [.int .i64 (UQ l o n:Nat),.bool (Zu l o n)];rw[e9];exact hr9
  refine au 11 K M ?_;intro _ _ K _ M;refine Qb 0 K M ?_;refine⟨congrArg AV.bool ?_,?_,(B.step M).JN⟩
  ·clear M B hr K hT
   cases o<;>simp_all [BV]<;>omega
  ·have hr9:=M.Yb (k:=0) rfl
   have e9:([.int .i64 (UQ l o n:Nat),.bool (Zu l o n)]:List AV)=[.int .i64 ((((l:Nat):Int)-((n:Nat):Int))),.bool o]:=by
    clear M B hr K hT hr9
    cases o<;>simp_all [UQ,Zu]<;>omega
   show Qy _ mp 0 [.int .i64 (UQ l o n:Nat),.bool (Zu l o n)];rw[e9];exact hr9
 refine Qb 7 K M ?_;refine⟨congrArg AV.bool ?_,?_,(B.step M).JN⟩
 ·clear M B hr K hT
  cases o<;>simp_all [BV]<;>omega
 ·have hr9:=M.Yb (k:=0) rfl
  have e9:([.int .i64 (UQ l o n:Nat),.bool (Zu l o n)]:List AV)=[.int .i64 (l:Nat),.bool o]:=by
   clear M B hr K hT hr9
   cases o<;>simp_all [UQ,Zu]<;>omega
  show Qy _ mp 0 [.int .i64 (UQ l o n:Nat),.bool (Zu l o n)];rw[e9];exact hr9

theorem Dn(hf:Qi st)(hr:Qy st.h.get mp 0 [.int .i64 (l:Nat),.bool false])(hl:l≤9223372036854775807)(n:Nat)(hn:n≤l): ∃v st',Jh 72 [.ptr mp 0 0,.int .i64 (n:Nat)] st v st'∧v=.bool true∧(Yt mp (l-n) false).H st'.h.get∧US (fun c=>c=mp) st st':=by
 obtain⟨v,st',h1,h2,h3,h4⟩:=Ng hf hr hl n Qc;exact⟨v,st',h1,by rw[h2,Tz hn],by rw[HS hn]at h3;exact h3,h4⟩

theorem VV(hf:Qi st)(hr:Qy st.h.get mp 0 [iN l,.bool false])(hl1:1≤l)(hl:l≤9223372036854775807)(n:Nat): ∃v st',Jh 44 [.ptr mp 0 0,iN n] st v st'∧v=.bool (decide ((n:Int)≤400))∧(Yt mp (l-1) false).H st'.h.get∧US (fun c=>c=mp) st st':=by
 have B:=Qk.UN (o:=Yt mp l false) hf hr (fun c hc=>(show c=mp from hc)▸hr.lt hf);refine JA Tryz.func44 Tryz.ntmps44 fun T K=>?_;have M:=B.mem;refine Qb 2 K M fun _ K=>?_;replace B:=B.step M;obtain⟨v6,st6,ev6,rfl,hm3,Q3⟩:=Dn B.fresh (B.at_ (k:=0) rfl) hl 1 hl1;refine p1 K (Qg rfl ev6) fun _ K=>?_;replace B:=B.call (k:=0) (o':=Yt mp (l-1) false) rfl Q3 hm3 (fun c hc=>⟨.inl hc,Nat.lt_of_lt_of_le (B.Y4 (k:=0) rfl c hc) Q3.le⟩);have M:=B.mem;refine Qb 5 K M ?_;replace B:=B.step M;exact⟨rfl,B.at_ (k:=0) rfl,B.JN⟩

end
section
open Go Go.RowKit

def ie(w:List Nat)(i:Nat):Nat:=(w[i]?).getD 0
def Tk(k c:Nat):Prop:=c=0∨c=2^k
end
section
open Go Go.RowKit

def O4(a b:Au)(p:Nat×Nat)(c:Nat):Nat×Nat:=(a.go p.1 c,b.go p.2 c)
def CN(t:Nat)(x y:Bool):Bool:=t/2^((if x then 2 else 0)+(if y then 1 else 0)) % 2==1
def I1(a b:Au)(t:Nat)(p:Nat×Nat):Bool:=CN t (a.ok p.1) (b.ok p.2)
theorem wb(a b:Au): ∀(w:List Nat) (p:Nat×Nat),w.foldl (O4 a b) p=(a.run p.1 w,b.run p.2 w)
 |[],p=>rfl
 |c::w,p=>by rw[List.foldl_cons,wb a b w];rfl
abbrev I0(a b:Au)(t:Nat)(l:List (Nat×Nat))(m:Au):Prop:=UB (O4 a b) (0,0) (I1 a b t) l m∧m.tr=a.tr
theorem I0.RC{a b m:Au}{t:Nat}{l:List (Nat×Nat)}(H:I0 a b t l m){w:List Nat}(hw:VO a.K w):m.ok (m.run 0 w)=CN t (a.ok (a.run 0 w)) (b.ok (b.run 0 w)):=by
 rw[H.1.RC (by unfold Au.K at hw ⊢;rw[H.2];exact hw),wb];rfl
section
variable {a b m:Au} {t k:Nat} {l:List (Nat×Nat)} {w:List Nat}
end
end
section
open Go Go.RowKit
variable {LL:List (List Int)} {fa fc:List AV} {fo:FuncId} {kL:AV} {lL:List (List AV)} {st:St}

theorem Yu.qt{st':St}(hf:Qi st)(q:Qt st st'){c m:Nat}{l:List AV}(r:Yu st.h.get c m l):Yu st'.h.get c m l:=r.O5 hf (q.O5 []) Q7
theorem Ba(hf:Qi st){l:List Bool}{kl:AV}(hl:Jj st.h.get [] 1 (bC l) kl)(hn:l.length≤1000000): ∃v st',Jh 48 [kl] st v st'∧ ∃ks,v=ks∧EA st st' 1 ks (bC l)∧Qt st st':=by
 have hcl:=Uq l;refine JA Tryz.func48 Tryz.ntmps48 fun T K=>?_;have M:=Mem.start hf;refine Qb 2 K M fun _ K=>?_;refine p1 K (G1 (hl.len.trans (congrArg some (Uq _))) Yc rfl rfl) fun _ K=>?_;refine Qb 0 K M fun _ K=>?_;refine Qp (K.QG rfl) (fun h4=>?_) (fun h4=>?_)
 ·have hb4:=h4;refine Qb 1 K M ?_
  have hbl:l=[]:=by
   have h:=hl.len;rw[Tw h4]at h
   injection h with h
   rw[Uq]at h;exact Za h.symm
  exact⟨.nils,rfl,⟨[],by rw[hbl];exact .none,fun _ _ _ h=>by cases h⟩,M.qt⟩
 have hb4:=h4;refine au 2 K M ?_;intro c5 _ _ K _ M;replace M:=Mem.cast (M':=([(c5,0,[])]++[])) (Mem.perm M (List.perm_append_comm (α:=Nat×Nat×List AV) (l₁:=[(c5,0,[])]) (l₂:=[]))) U0;have hA0c5:Acc st.n 1 [(c5,0,[])] (.sl c5 0 0 0 1) []:=Acc.own (n0:=st.n) (z:=1) (c:=c5) (m:=0) (ls:=[]) ((M.own c5 0 [] Q7).resolve_right Q7) Q7 Q7;refine SD (L:=[]) (A:=[(c5,0,[])]) (B:=[]) K M hA0c5 J4 rfl rfl (Jj.mem M hl Q7) (zk _) (by simp only[List.length_nil];omega) rfl fun ks7 A7 _ _ K hA7 M=>?_;refine Qb 1 K M ?_;refine⟨_,rfl,?_,M.qt⟩;have h:=Mem.BO (L:=[]) (A:=A7) (B:=[]) M hA7
 simpa using h

theorem qi(hf:Qi st)(hLL:O6 st.h.get LL kL lL){p:List Int→Bool}(hC: ∀(s:List Int) (w:AV) (st1:St),s∈LL→Qt st st1→Jj st1.h.get [] 1 (zC s) w→ ∃v st',Jh fo (fa++([w]++fc)) st1 v st'∧v=.bool (p s)∧Qt st1 st'): ∃v st',Jh 124 [kL,(AV.fn fo fa fc)] st v st'∧v=iZ (IN p LL 0)∧Qt st st':=by
 have hLb:=hLL.r.Wv;rw[hLL.ln]at hLb;refine JA Tryz.func124 Tryz.ntmps124 fun T K=>?_;have M:=Mem.start hf;refine Qb 2 K M fun _ K=>?_;refine p1 K (Q5 JT rfl rfl hLL.len) fun _ K=>?_;refine Qb 1 K M fun _ K=>?_;refine QY (fun mm1 T st9=> ∃(i:Nat),mm1=LL.length-i∧QT [(0,kL),(1,(AV.fn fo fa fc)),(7,iZ (LL.length:Nat)),(8,iN i)] T∧Mem st.h.get st.n [] st9 []∧i≤LL.length∧IN p LL 0=IN p (LL.drop i) i) (fun mm1 T st9 hI=>?_) _ _ _ ⟨0,rfl,(K.sub rfl),M.less (.refl _),(Nat.zero_le _),rfl⟩;obtain⟨i,rfl,K,M,hi,hx⟩:=hI;refine Qb 1 K M fun _ K=>?_;refine Jy K rfl (fun h9=>?_) fun h9=>?_
 ·refine Qb 5 K M fun _ K=>?_;obtain⟨s14,hi14⟩:=Uw LL i Qc;obtain⟨_,hc14,w14,rfl,hr14,hz14⟩:=hLL.at_ _ _ hi14;refine oI (Jj.mem M hLL.r Q7) hc14 K QZ Jb rfl rfl rfl fun _ _ _ _ K=>?_;obtain⟨v16,st16,ev16,rfl,q16⟩:=hC s14 _ _ (List.mem_of_getElem? hi14) M.qt (Jj.mem M hr14 Q7);refine p1 K (ZW rfl rfl ev16) fun _ K=>?_;replace M:=M.quiet q16;refine Qb 0 K M fun _ K=>?_;refine Qp (K.QG rfl) (fun h16=>?_) (fun h16=>?_)
  ·have hb16:=h16;refine Qb 2 K M ?_;exact⟨by rw[hx,AZ hi14,if_pos h16],M.qt⟩
  have hb16:=h16;refine Qb 2 K M fun _ K=>?_;exact⟨_,Qc,i+1,rfl,(K.sub rfl),M.less (.refl _),Qc,(by rw[hx,AZ hi14,if_neg (by rw[h16];decide)])⟩
 refine QM ?_;show W _ _ _ _ _ _ _;refine Qb 1 K M ?_;exact⟨by rw[hx,DS Qc],M.qt⟩

theorem Cq(hf:Qi st)(hLL:O6 st.h.get LL kL lL){p:List Int→Bool}(hC: ∀(s:List Int) (w:AV) (st1:St),s∈LL→Qt st st1→Jj st1.h.get [] 1 (zC s) w→ ∃v st',Jh fo (fa++([w]++fc)) st1 v st'∧v=.bool (p s)∧Qt st1 st'): ∃v st',Jh 92 [kL,(AV.fn fo fa fc)] st v st'∧v=.bool (LL.any p)∧Qt st st':=by
 have hLb:=hLL.r.Wv;rw[hLL.ln]at hLb;refine JA Tryz.func92 Tryz.ntmps92 fun T K=>?_;have M:=Mem.start hf;refine Qb 3 K M fun _ K=>?_;refine oQ K M (qi M.fresh (hLL.JB hf fun c hc=>M.JB c hc Q7) (fun s w st1 hs q hr=>hC s w st1 hs (M.qt.trans q) hr)) rfl rfl fun _ _ K M=>?_;refine Qb 2 K M ?_;exact⟨by rw[←DT p LL 0],M.qt⟩

theorem Cp(hf:Qi st)(hLL:O6 st.h.get LL kL lL)(hC: ∀(s:List Int) (w:AV) (st1:St),s∈LL→Qt st st1→Jj st1.h.get [] 1 (zC s) w→ ∃v st',Jh fo (fa++([w]++fc)) st1 v st'∧v=.bool false∧Qt st1 st'): ∃v st',Jh 92 [kL,.fn fo fa fc] st v st'∧v=.bool false∧Qt st st':=by
 obtain⟨v,st',h1,h2,h3⟩:=Cq (p:=fun _=>false) hf hLL hC;exact⟨v,st',h1,by rw[h2];simp,h3⟩

theorem eK(hf:Qi st){cn:Nat}{n x:Int}(hc:Yu st.h.get cn 0 [iZ n])(h1:0≤x)(h2:x<n): ∃v st',Jh 91 [iZ x,.ptr cn 0 0] st v st'∧v=.bool false∧Qt st st':=by
 refine JA Tryz.func91 Tryz.ntmps91 fun T K=>?_;have M:=Mem.start hf;refine Qb 3 K M fun _ K=>?_;refine Uj K rfl (fun _ e6 K=>?_) fun _ e6 K=>?_
 ·refine Qb 1 K M fun _ K=>?_;refine pg K rfl rfl (Qf rfl (Qx (M.JH Q7 hc) (Qd Qn rfl))) fun _ K=>?_;refine Qb 3 K M ?_;exact⟨congrArg AV.bool (decide_eq_false Qc),M.qt⟩
 exfalso;omega

theorem eJ(hf:Qi st){a:Au}(wf:Zs a){ka kn:AV}{ca cf cn:Nat}(hca:Yu st.h.get ca 0 [iZ (a.tr:Nat),ka,kn])(hcf:Yu st.h.get cf 0 [.fn 91 [] [.ptr cn 0 0]])(hcn:Yu st.h.get cn 0 [iZ (a.n:Nat)]){r:List Int}{kl:AV}(hm:r∈a.nx)(hl:Jj st.h.get [] 1 (zC r) kl): ∃v st',Jh 93 [kl,.ptr ca 0 0,.ptr cf 0 0] st v st'∧v=.bool false∧Qt st st':=by
 obtain⟨hr1,hr2⟩:=wf.row r hm;have hp:=J9 wf.tr;have hr1':r.length=2^a.tr:=hr1;have htr:=wf.tr;refine JA Tryz.func93 Tryz.ntmps93 fun T K=>?_;have M:=Mem.start hf;refine Qb 2 K M fun _ K=>?_;refine p1 K (Q5 Ja rfl rfl (hl.len.trans (congrArg some (Qq _)))) fun _ K=>?_;refine Qb 1 K M fun _ K=>?_;refine p1 K (Qf rfl (Qx (M.JH Q7 hca) (Qd Qn rfl))) fun _ K=>p1 K (UU (n:=a.tr) rfl rfl Qc) fun _ K=>?_;refine Qb 1 K M fun _ K=>?_;refine oB K (Q0 rfl) rfl fun b11 _ e11 K=>?_;cases b11
 ·replace e11:(((r.length:Nat):Int)=((2^a.tr:Nat):Int)):=by simpa using e11
  refine Qb 1 K M fun _ K=>?_;refine pg K rfl rfl (Qf rfl (Qx (M.JH Q7 hcf) (Qd Hz rfl))) fun _ K=>?_;obtain⟨v14,st14,ev14,rfl,q14⟩:=Iq (fo:=91) (fa:=[]) (fc:=[.ptr cn 0 0]) M.fresh (Jj.mem M hl Q7) Qc (fun x hx st1 q=>eK q.fresh ((hcn.qt hf M.qt).qt M.fresh q) (hr2 x hx).1 (hr2 x hx).2);refine pg K rfl rfl (Qg rfl ev14) fun _ K=>?_;replace M:=M.quiet q14;refine Qb 2 K M ?_;exact⟨rfl,M.qt⟩
 replace e11: ¬(((r.length:Nat):Int)=((2^a.tr:Nat):Int)):=by simpa using e11
 exfalso;omega

theorem av(hf:Qi st){a:Au}(wf:Zs a){ka kn:AV}{ls:List (List AV)}(hA:Jj st.h.get [] 1 (bC a.acc) ka)(hN:O6 st.h.get a.nx kn ls): ∃v st',Jh 69 [.agg [iZ (a.tr:Nat),ka,kn]] st v st'∧v=.bool true∧Qt st st':=by
 have htr:=wf.tr;have hps:=wf.pos;have hmo:=wf.most;have hln:=wf.len;have hen:a.n=a.acc.length:=rfl;have hac:=hA.cell;have hnc:=hN.r.cell;refine JA Tryz.func69 Tryz.ntmps69 fun T K=>?_;have M:=Mem.start hf;refine Qb 0 K M fun _ K=>?_;refine Ju K M rfl (Qa rfl (Qa hA.cell (Qa hN.r.cell Q4))) Q9 fun c1 _ _ K M=>?_;refine Qb 3 K M fun _ K=>?_;refine p1 K (Q5 Yc rfl rfl (hA.len.trans (congrArg some (Uq _)))) fun _ K=>?_;refine au 5 K M ?_;intro c3 _ _ K _ M;refine Uj K rfl (fun _ e11 K=>?_) fun _ e11 K=>?_
 ·refine Qb 4 K M fun _ K=>?_;refine Uj K rfl (fun _ e16 K=>?_) fun _ e16 K=>?_
  ·refine Qb 3 K M fun _ K=>?_;refine Uj K rfl (fun _ e20 K=>?_) fun _ e20 K=>?_
   ·refine Qb 3 K M fun _ K=>?_;refine Uj K rfl (fun _ e24 K=>?_) fun _ e24 K=>?_
    ·refine Qb 1 K M fun _ K=>?_;refine pg K rfl rfl (Qf rfl (M.load (k:=1) rfl (Qd Q8 rfl))) fun _ K=>pg K rfl rfl (Q5 JT rfl rfl hN.len) fun _ K=>?_;refine Qb 3 K M fun _ K=>?_;refine aK K rfl (fun h30=>?_) fun h30=>?_
     ·exfalso;omega
     refine Qb 0 K M fun _ K=>?_;refine p1 K (X1 rfl rfl) fun _ K=>?_;refine LD K M Hv Q9 fun c4 _ _ K M=>?_;refine QW (k:=0) K M rfl rfl rfl H6 rfl rfl rfl fun _ M=>?_;refine Qb 1 K M fun _ K=>?_;refine p1 K (Qf rfl (M.load (k:=2) rfl (Qd Q8 rfl))) fun _ K=>p1 K (X1 rfl rfl) fun _ K=>?_;have hrw1:=(M.Yb (k:=2) rfl).Jd;have hrw3:=(M.Yb (k:=1) rfl).Jd;have hrw4:=(M.Yb (k:=0) rfl).Jd;have hfr:=M.fresh;refine oQ K M (Cp (fo:=93) (fa:=[]) (fc:=[.ptr c1 0 0,.ptr c4 0 0]) M.fresh (hN.JB hf fun c hc=>M.JB c hc Q7) (fun s w st1 hs q hr=>eJ q.fresh wf (hrw1.qt hfr q) (hrw4.qt hfr q) (hrw3.qt hfr q) hs hr)) rfl rfl fun _ _ K M=>?_;refine Qb 2 K M ?_;exact⟨rfl,M.qt⟩
    exfalso;omega
   exfalso;omega
  exfalso;omega
 exfalso;omega
end
section
open Go Go.RowKit

abbrev zN(l:List Nat):List Int:=l.map fun r=>((r:Nat):Int)
theorem Hx(l:List Nat)(r:Nat):zN (l++[r])=zN l++[((r:Nat):Int)]:=by simp
section
variable {st0 st:St} {X0:Fp} {M A1 A2:QS} {Os:List Ob} {F1:Fp} {dp sp n0 n1:Nat} {ka kr:AV} {a:Au} {S:U8} {roots:List Nat}
theorem Qk.eX(B:Qk st0 X0 st ((dp,0,[ka,kr,.ptr sp 0 0])::(A1++(A2++M))) (X9 F1 sp a.tr S::Os))(hA1:Acc n0 1 A1 ka (bC a.acc))(hA2:Acc n1 1 A2 kr (zC (zN roots)))(wfS:Xk a.tr S)(wf:Zs a)(hl:roots.length=a.n)
  (hr: ∀(s r:Nat),roots[s]? =some r→r<S.length∧a.nx[s]? =some (WE a.tr S r)): ∃F,Qk st0 X0 st M (Ip F dp a::Os):=by
 have h1:Jj st.h.get [] 1 (bC a.acc) ka:=Mem.Y6 (L:=[(dp,0,[ka,kr,.ptr sp 0 0])]) (A:=A1) (B:=A2++M) B.mem hA1;have h2:Jj st.h.get [] 1 (zC (zN roots)) kr:=Mem.Y6 (L:=(dp,0,[ka,kr,.ptr sp 0 0])::A1) (A:=A2) (B:=M) (B.mem.cast Q7) hA2;have h0:=B.row dp 0 _ (List.mem_cons_self ..);have B0:Qk st0 X0 st (((dp,0,[ka,kr,.ptr sp 0 0])::(A1++A2))++M) (X9 F1 sp a.tr S::Os):=B.cast Q7;have B1:=B0.freeze (o:=Xn ((dp,0,[ka,kr,.ptr sp 0 0])::(A1++A2))) (fun c m l hm=>B0.row c m l (List.mem_append_left _ hm)) (fun c hc=>hc)
 have f1:zF (Xn ((dp,0,[ka,kr,.ptr sp 0 0])::(A1++A2))).F ka:=fun c m o n y e=>by
  obtain⟨m,l,h⟩:=hA1.vj c m o n y e;exact⟨m,l,by simp[h]⟩
 have f2:zF (Xn ((dp,0,[ka,kr,.ptr sp 0 0])::(A1++A2))).F kr:=fun c m o n y e=>by
  obtain⟨m,l,h⟩:=hA2.vj c m o n y e;exact⟨m,l,by simp[h]⟩
 refine⟨fun c=>(Xn ((dp,0,[ka,kr,.ptr sp 0 0])::(A1++A2))).F c∨F1 c,B1.join (fun g1 g2=>?_) fun c hc=>hc⟩;exact⟨ka,kr,sp,F1,S,roots,h0,.inl ⟨_,_,List.mem_cons_self ..⟩,h1,fun c m o n y e=>.inl (f1 c m o n y e),h2,fun c m o n y e=>.inl (f2 c m o n y e),g2,fun c hc=>.inr hc,wfS,wf,hl,hr⟩
end
theorem jC{T:Nat}{S S':U8}(W:Xk T S)(h:S<+:S'){r:Nat}(hr:r<S.length):WE T S' r=WE T S r:=by
 unfold WE;exact List.map_congr_left fun c _=>Zq W h hr c
theorem Ro{a:Au}{S S':U8}{rs:List Nat}{r i:Nat}{row:List Int}(wfS:Xk a.tr S)(wf':Xk a.tr S')(hp:S<+:S')(hr:r<S'.length)(hl:rs.length=i)(hi:a.nx[i]? =some row)(hrow:row.length=2^a.tr)(he: ∀c,c<2^a.tr→row[c]? =some (Y5 S' r c))
  (h: ∀(s r:Nat),rs[s]? =some r→r<S.length∧a.nx[s]? =some (WE a.tr S r)): ∀(s q:Nat),(rs++[r])[s]? =some q→q<S'.length∧a.nx[s]? =some (WE a.tr S' q):=by
 intro s q hs
 by_cases hlt:s<rs.length
 ·rw[List.getElem?_append_left hlt]at hs;obtain⟨h1,h2⟩:=h s q hs;exact⟨Nat.lt_of_lt_of_le h1 hp.length_le,by rw[h2,jC wfS hp h1]⟩
 ·have h3:=(List.getElem?_eq_some_iff.1 hs).1;rw[List.length_append,List.length_singleton]at h3
  have h4:s=rs.length:=by omega
  subst h4;rw[List.getElem?_append_right (Nat.le_refl _),Nat.sub_self]at hs
  injection hs with hs
  subst hs;exact⟨hr,by rw[hl,hi,xx hrow he]⟩

theorem Ed{st:St}(hf:Qi st){a:Au}(wf:Zs a){ka kn:AV}{ls:List (List AV)}(hA:Jj st.h.get [] 1 (bC a.acc) ka)(hN:O6 st.h.get a.nx kn ls): ∃v st',Jh 43 [.agg [iZ (a.tr:Nat),ka,kn]] st v st'∧ ∃dp F,v=.tup [.ptr dp 0 0,iZ 0]∧UZ st' F dp a∧ZQ st st' F∧Qt st st':=by
 have htr:=wf.tr;have hps:=wf.pos;have hmo:=wf.most;have hln:=wf.len;have hen:a.n=a.acc.length:=rfl;have hac:=hA.cell;have hnc:=hN.r.cell;have hp64:=J9 wf.tr;have B:=Qk.start hf;refine JA Tryz.func43 Tryz.ntmps43 fun T K=>?_;have M:=B.mem;refine Qb 0 K M fun _ K=>?_;refine Ju K M rfl (Qa rfl (Qa hA.cell (Qa hN.r.cell Q4))) Q9 fun c1 _ _ K M=>?_;refine Qb 3 K M fun _ K=>?_;replace B:=B.step M;obtain⟨v8,st8,ev8,rfl,q8⟩:=av B.fresh wf (B.FF hf hA) (hN.JB hf fun c hc=>B.JB c hc id);refine p1 K (Qg rfl ev8) fun _ K=>?_;replace B:=B.quiet q8;have M:=B.mem;refine Qb 2 K M fun _ K=>?_;refine QC (l:=[(0,0),(1,0),(2,0),(3,0),(4,1),(5,0),(6,0),(7,0),(8,0)]) (by kernel_rfl) ?_;have Mq:=M;refine Jo 2 K M fun _ K=>?_;obtain⟨v12,st12,ev12,ks12,rfl,nr12,q12⟩:=Ba M.fresh ((B.step M).FF hf hA) Qc;refine qA rfl K (Qg rfl ev12) fun _ K=>?_;obtain⟨A12,hA12,M⟩:=M.Yz q12 nr12;simp only[X3]at M;have Mp:=Mq;have Mq:=M;refine Jo 1 K M fun _ K=>?_;refine Jt rfl K rfl (M.load (k:=0) rfl (Qd Qn rfl)) (Mp.load (k:=0) rfl (Qd Qn rfl)) (JQ rfl) rfl Q9 fun _ K=>?_;replace B:=B.step M;obtain⟨v15,st15,ev15,sp,F15,rfl,hS15,nf15,q15⟩:=TW B.fresh wf.tr;refine qA rfl K (Qg rfl ev15) fun _ K=>?_;replace B:=B.new (o:=X9 F15 sp a.tr []) q15 hS15.at_ nf15;have M:=B.mem;have Mp:=Mq;have Mq:=M;refine q1 rfl K (WJ Kr rfl ((JD rfl hA12.cell rfl).trans ((Fe rfl rfl rfl).trans rfl))) fun _ K=>?_;refine w7 rfl K M rfl (Qa hA12.cell (Qa rfl (Qa rfl Q4))) rfl fun c17 _ _ K M=>?_;refine q1 rfl K (JW rfl) fun _ K=>QF ?_;show W _ _ _ _ _ _ _;refine Qb 1 K M fun _ K=>?_;refine p1 K (Qf rfl (M.load (k:=1) rfl (Qd Q8 rfl))) fun _ K=>p1 K (Q5 JT rfl rfl hN.len) fun _ K=>?_;refine Qb 1 K M fun _ K=>?_;refine QY (fun mm1 T st9=> ∃(i:Nat) (rs:List Nat) (kr:AV) (A:QS) (F:Fp) (S:U8),mm1=a.nx.length-i∧QT [(2,.nilp),(3,iZ 0),(4,.ptr c17 0 0),(19,kn),(20,iZ (a.nx.length:Nat)),(21,iN i)] T∧Qk st Xi st9 ((c17,0,[v12,kr,.ptr sp 0 0])::(c1,0,[iZ (a.tr:Nat),ka,kn])::(A12++(A++[]))) [X9 F sp a.tr S]∧Acc 0 1 A kr (zC (zN rs))∧i≤a.nx.length∧rs.length=i∧Xk a.tr S∧S.length≤i *127∧(∀(s r:Nat),rs[s]? =some r→r<S.length∧a.nx[s]? =some (WE a.tr S r))) (fun mm1 T st9 hI=>?_) _ _ _ ⟨0,[],.nils,[],_,[],rfl,(K.sub rfl),(B.step M).less (.refl _),.none,(Nat.zero_le _),rfl,(Xk.nil _),(Nat.zero_le _),(fun s r h=>by simp at h)⟩;obtain⟨i,rs,kr,A,F,S,rfl,K,B,hA4,hi,hrl,wfS,hSl,hrs⟩:=hI;have M:=B.mem;refine Qb 1 K M fun _ K=>?_;refine Jy K rfl (fun h22=>?_) fun h22=>?_
 ·refine Qb 0 K M fun _ K=>?_;obtain⟨s23,hi23⟩:=Uw a.nx i Qc;obtain⟨_,hc23,w23,rfl,hr23,hz23⟩:=hN.at_ _ _ hi23;refine oI ((B.step M).FF hf hN.r) hc23 K QZ Jb rfl rfl rfl fun _ _ _ _ K=>?_;refine Qb 1 K M fun _ K=>?_;refine QC (l:=[(5,0),(6,0),(7,0),(8,0),(9,0),(10,0),(1,0),(2,0),(3,0),(4,1),(11,0),(12,0),(0,0),(13,0),(14,0),(15,0)]) (by kernel_rfl) ?_;have Mq:=M;refine Jo 5 K M fun _ K=>?_;replace B:=B.step M;have hs24:=wf.row s23 (List.mem_of_getElem? hi23)
  have hlB:(S.length:Nat)+(2^(a.tr-0+1)-1)≤1000000000:=by rw[Nat.sub_zero,Nat.pow_succ];omega
  obtain⟨v35,st35,ev35,r35,S35,rfl,ho35,mb35,hev35⟩:=zg B.fresh (B.Kq (k:=0) rfl) wf.tr wfS hlB (B.FF hf hr23) (B.off (k:=0) rfl hf hr23 fun _ _ _ _ _ _=>id) hs24.1 (fun x hx=>by have:=hs24.2 x hx;omega);refine qA rfl K (Qg rfl ev35) fun _ K=>?_;obtain⟨F35,B⟩:=B.We ho35;have M:=B.mem;have Mp:=Mq;have Mq:=M;refine Jo 3 K M fun _ K=>?_;refine Jt rfl K rfl (M.load (k:=0) rfl (Qd Jb rfl)) (Mp.load (k:=0) rfl (Qd Jb rfl)) (JQ (Uo hA4.len)) rfl Q9 fun _ K=>?_;refine XY rfl K M QJ XL rfl rfl rfl rfl rfl fun c36 _ _ K M=>?_;refine X6 (k2:=0) (L:=((c36,0,[iN r35])::(c17,0,[v12,kr,.ptr sp 0 0])::(c1,0,[iZ (a.tr:Nat),ka,kn])::(A12++[]))) (A:=A) (B:=[]) rfl K (Mem.cast M U0) hA4 QJ rfl rfl rfl rfl (by simp only[Qq,List.length_map];omega) rfl fun ks37 A37 _ _ K hA37 M=>?_;simp only[X3]at M;have Mp:=Mq;have Mq:=M;refine Jo 3 K M fun _ K=>?_;refine YG (k:=1) rfl K M rfl rfl rfl CQ (hA37.cell) rfl fun _ M=>?_;have Mp:=Mq;have Mq:=M;refine QF ?_;show W _ _ _ _ _ _ _;refine Qb 2 K M fun _ K=>?_;exact⟨_,Qc,i+1,rs++[r35],ks37,A37,_,S35,rfl,(K.sub rfl),(B.step M).less (.cons _ (.refl _)),(by rw[Hx,JX];exact hA37),Qc,(by rw[List.length_append,hrl];rfl),mb35.wf,(by have:=mb35.len;rw[Nat.pow_succ]at this;omega),(Ro wfS mb35.wf mb35.pre mb35.lt hrl hi23 hs24.1 hev35 hrs)⟩
 refine QM ?_;show W _ _ _ _ _ _ _;refine Qb 3 K M ?_;obtain⟨F',B'⟩:=Qk.eX (M:=[]) (((B.step M).less ((.cons_cons _ (.cons _ (.refl _)))))) hA12 hA4 wfS wf Qc hrs;exact⟨_,F',rfl,B'.ja (k:=0) rfl,B'.uI (k:=0) rfl,B'.qt⟩
end
end Go.Proofs.YtiknomepbklibaaGreatDoor
