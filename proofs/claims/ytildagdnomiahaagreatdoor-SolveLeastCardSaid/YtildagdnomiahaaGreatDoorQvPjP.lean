/-
  Facts on the program's types.
-/
import Derived.Test.YtildagdnomiahaaGreatDoorQvBdB
import Derived.Test.YtildagdnomiahaaGreatDoorQvCl
set_option maxRecDepth 100000
set_option linter.unnecessarySimpa false
set_option linter.unusedSimpArgs false
set_option linter.unusedVariables false
namespace Go.Proofs.YtildagdnomiahaaGreatDoor
section
open Go

theorem GG:tk Tryz.prog 57=.one:=by kernel_rfl
theorem FM:tk Tryz.prog 53=.one:=by kernel_rfl
theorem FT:UX Tryz.prog 53=some 1:=by kernel_rfl
theorem FH:zeroOf Tryz.prog 53=some [.nilf]:=by kernel_rfl
end
section
open Go

theorem Yh:tk Tryz.prog 311=.one:=by kernel_rfl
theorem Jb:tk Tryz.prog 299=.one:=by kernel_rfl
theorem ZK:tk Tryz.prog 320=.one:=by kernel_rfl
end
section
open Go Go.RowKit
variable {a:Au}

def bC(l:List Bool):List (List AV):=l.map fun b=>[AV.bool b]
theorem Vi(l:List Bool):(bC l).length=l.length:=by simp[bC]
theorem fm{l:List Bool}{i:Nat}{b:Bool}(h:l[i]? =some b):(bC l)[i]? =some [AV.bool b]:=by rw[bC,List.getElem?_map,h];rfl
theorem BS(a b:List Bool):bC (a++b)=bC a++bC b:=by simp[bC]
theorem fl(l:List Bool): ∀cs∈bC l,cs.length=1:=by
 intro cs h;obtain⟨s,_,rfl⟩:=List.mem_map.1 h;rfl
def zB(F:Fp)(v:AV):Prop:= ∀c m o n y,v=.sl c m o n y→F c
theorem Acc.wC{n0 z:Nat}{A:QP}{kr:AV}{ls:List (List AV)}(hA:Acc n0 z A kr ls):zB (Xl A).F kr:=fun c m o n y e=>by
 cases hA with
 |none=>cases e
 |own h1 h2 h3=>injection e with e1 e2;subst e1;exact⟨_,_,List.mem_cons_self ..⟩
theorem Zl.wC{A:QP}{kr:AV}{vs:List AV}(hA:Zl A kr vs):zB (Xl A).F kr:=fun c m o n y e=>by
 cases hA with
 |none=>cases e
 |own h3=>injection e with e1 e2;subst e1;exact⟨_,_,List.mem_cons_self ..⟩
structure BY(h:Hp)(F:Fp)(vs:List AV)(LL:List (List Int)):Prop where
 ln:vs.length=LL.length
 at_: ∀(i:Nat) (s:List Int),LL[i]? =some s→ ∃v,vs[i]? =some v∧Jg h [] 1 (zC s) v∧HC s∧zB F v
theorem BY.frame{h h':Hp}{F:Fp}{vs:List AV}{LL:List (List Int)}(e: ∀c,F c→h' c=h c)(H:BY h F vs LL):BY h' F vs LL:=
 ⟨H.ln,fun i s hi=>by
  obtain⟨v,h1,h2,h3,h4⟩:=H.at_ i s hi
  exact⟨v,h1,h2.frame fun c m o n y e'=>e c (h4 c m o n y e'),h3,h4⟩⟩
def T9(F:Fp)(vs:List AV)(LL:List (List Int)):Ob:=⟨F,fun h=>BY h F vs LL,fun _ _ e H=>H.frame e⟩
structure Zw(h:Hp)(F:Fp)(kn:AV)(vs:List AV)(LL:List (List Int)):Prop where
 rd:Jg h [] 1 (vs.map fun v=>[v]) kn
 vs:BY h F vs LL
 out:zB F kn
theorem Zw.frame{h h':Hp}{F:Fp}{kn:AV}{vs:List AV}{LL:List (List Int)}(e: ∀c,F c→h' c=h c)(H:Zw h F kn vs LL):Zw h' F kn vs LL:=
 ⟨H.rd.frame fun c m o n y e'=>e c (H.out c m o n y e'),H.vs.frame e,H.out⟩
def Oc(F:Fp)(kn:AV)(vs:List AV)(LL:List (List Int)):Ob:=⟨F,fun h=>Zw h F kn vs LL,fun _ _ e H=>H.frame e⟩
theorem Zw.r{h:Hp}{F:Fp}{kn:AV}{vs:List AV}{LL:List (List Int)}(H:Zw h F kn vs LL):qp h LL kn (vs.map fun v=>[v]):=by
 refine⟨H.rd,by rw[List.length_map];exact H.vs.ln,fun i s hi=>?_⟩;obtain⟨v,k1,k2,k3,_⟩:=H.vs.at_ i s hi;exact⟨[v],by rw[List.getElem?_map,k1];rfl,v,rfl,k2,k3⟩
theorem Zw.len{h:Hp}{F:Fp}{kn:AV}{vs:List AV}{LL:List (List Int)}(H:Zw h F kn vs LL):J8 kn=some LL.length:=H.r.len
section
variable {st0 st:St} {X0:Fp} {L A B M:QP} {Os:List Ob} {F:Fp} {vs:List AV} {LL:List (List Int)} {kr kn:AV} {row:List Int}
theorem Ql.nf{A B:QP}(H:Ql st0 X0 st (L++(A++B)) Os):Ql st0 X0 st (A++(L++B)) Os:=H.perm (by rw[←List.append_assoc,←List.append_assoc];exact List.perm_append_comm.append_right B)
theorem Ql.LB(B:Ql st0 X0 st M Os):Ql st0 X0 st M (T9 Ei [] []::Os):=
 B.new ⟨B.fresh,Nat.le_refl _,fun _ _=>rfl⟩ ⟨rfl,fun i s hi=>by simp at hi⟩ fun c hc=>hc.elim
theorem Ql.ND(H:Ql st0 X0 st (L++(A++B)) (T9 F vs LL::Os)){n0:Nat}(hA:Acc n0 1 A kr (zC row))(hz:HC row): ∃F',Ql st0 X0 st (L++B) (T9 F' (vs++[kr]) (LL++[row])::Os):=by
 have hr:Jg st.h.get [] 1 (zC row) kr:=Mem.Zv H.mem hA;have hin:=hA.wC;have B1:=H.nf.freeze (o:=⟨(Xl A).F,fun h=>Jg h [] 1 (zC row) kr,fun h h' e r=>r.frame fun c m o n y e'=>e c (hin c m o n y e')⟩) hr (fun c hc=>hc);refine⟨fun c=>(Xl A).F c∨F c,B1.join (fun h1 h2=>⟨by rw[List.length_append,List.length_append,h2.ln];rfl,fun i s hi=>?_⟩) fun c hc=>hc⟩
 by_cases hl:i<LL.length
 ·rw[List.getElem?_append_left hl]at hi;obtain⟨v,k1,k2,k3,k4⟩:=h2.at_ i s hi;exact⟨v,by rw[List.getElem?_append_left (by rw[h2.ln];exact hl)];exact k1,k2,k3,fun c m o n y e=>.inr (k4 c m o n y e)⟩
 ·have hlt:=(List.getElem?_eq_some_iff.1 hi).1;rw[List.length_append,List.length_singleton]at hlt
  have hl:i=LL.length:=by omega
  subst hl;rw[List.getElem?_append_right (Nat.le_refl _),Nat.sub_self]at hi
  injection hi with hi
  subst hi;exact⟨kr,by rw[List.getElem?_append_right (by rw[h2.ln];exact Nat.le_refl _),h2.ln,Nat.sub_self];rfl,h1,hz,fun c m o n y e=>.inl (hin c m o n y e)⟩
theorem Ql.qF(H:Ql st0 X0 st (L++(A++B)) (T9 F vs LL::Os))(hA:Zl A kn vs): ∃F',Ql st0 X0 st (L++B) (Oc F' kn vs LL::Os):=by
 have hr:Jg st.h.get [] 1 (vs.map fun v=>[v]) kn:=hA.rd fun c m l hm=>H.row c m l (by simp[hm]);have hin:=hA.wC;have B1:=H.nf.freeze (o:=⟨(Xl A).F,fun h=>Jg h [] 1 (vs.map fun v=>[v]) kn,fun h h' e r=>r.frame fun c m o n y e'=>e c (hin c m o n y e')⟩) hr (fun c hc=>hc);refine⟨fun c=>(Xl A).F c∨F c,B1.join (fun h1 h2=>⟨h1,⟨h2.ln,fun i s hi=>?_⟩,fun c m o n y e=>.inl (hin c m o n y e)⟩) fun c hc=>hc⟩;obtain⟨v,k1,k2,k3,k4⟩:=h2.at_ i s hi;exact⟨v,k1,k2,k3,fun c m o n y e=>.inr (k4 c m o n y e)⟩
end
def Py(h:Hp)(F:Fp)(dp:Nat)(a:Au):Prop:=
 ∃(ka kr:AV) (sp:Nat) (F1:Fp) (S:Uf) (roots:List Nat),Qu h dp 0 [ka,kr,.ptr sp 0 0]∧F dp∧Jg h [] 1 (bC a.acc) ka∧zB F ka∧Jg h [] 1 (zC (roots.map fun r=>((r:Nat):Int))) kr∧zB F kr∧EU h F1 sp a.tr S∧(∀c,F1 c→F c)∧ZI a.tr S∧Xu a∧roots.length=a.n∧
  ∀(s r:Nat),roots[s]? =some r→r<S.length∧a.nx[s]? =some (WB a.tr S r)
theorem Py.frame{h h':Hp}{F:Fp}{dp:Nat}{a:Au}(e: ∀c,F c→h' c=h c)(H:Py h F dp a):Py h' F dp a:=by
 obtain⟨ka,kr,sp,F1,S,roots,h1,h2,h3,h4,h5,h6,h7,h8,h9⟩:=H;exact⟨ka,kr,sp,F1,S,roots,h1.frame (e dp h2),h2,h3.frame fun c m o n y e'=>e c (h4 c m o n y e'),h4,h5.frame fun c m o n y e'=>e c (h6 c m o n y e'),h6,h7.frame fun c hc=>e c (h8 c hc),h8,h9⟩
def EJ(F:Fp)(dp:Nat)(a:Au):Ob:=⟨F,fun h=>Py h F dp a,fun _ _ e H=>H.frame e⟩
structure JH(st:St)(F:Fp)(dp:Nat)(a:Au):Prop where
 at_:Py st.h.get F dp a
 hi: ∀c,F c→c<st.n
theorem JH.q{st st':St}{F:Fp}{dp:Nat}{a:Au}(hD:JH st F dp a)(q:Qt st st'):JH st' F dp a:=⟨hD.at_.frame fun c hc=>q.J5 c (hD.hi c hc),fun c hc=>Nat.lt_of_lt_of_le (hD.hi c hc) q.le⟩
theorem JH.wf{st:St}{F:Fp}{dp:Nat}(hD:JH st F dp a):Xu a:=by
 obtain⟨_,_,_,_,_,_,_,_,_,_,_,_,_,_,_,h,_⟩:=hD.at_;exact h
theorem Ql.RE{st0 st:St}{X0 F:Fp}{M:QP}{Os:List Ob}{dp:Nat}(B:Ql st0 X0 st M Os){k:Nat}(hk:Os[k]? =some (EJ F dp a)):JH st F dp a:=⟨B.at_ hk,B.VM hk⟩
theorem Xu.Rv(W:Xu a): ∀r∈a.nx,HC r:=fun r hr z hz=>by
 obtain⟨_,h⟩:=W.row r hr;have:=h z hz;have:=W.most;omega
end
section
open Go Go.RowKit
set_option maxHeartbeats 8000000
variable {l:Nat} {st:St}

def YH(mp l:Nat)(o:Bool):Ob:=⟨fun c=>c=mp,fun h=>Qu h mp 0 [.int .i64 (l:Nat),.bool o],fun _ _ e H=>H.frame (e mp rfl)⟩
theorem Ql.qY(hf:Qh st){c m:Nat}{l:List AV}(h:Qu st.h.get c m l):Ql st (fun x=>x=c) st [(c,m,l)] []:=
 ⟨hf,Nat.le_refl _,fun c' m' l' h'=>(by injection List.mem_singleton.1 h' with e1 e2;injection e2 with e2 e3;subst e1 e2 e3;exact h),List.nodup_cons.2 ⟨by simp,List.nodup_nil⟩,fun c' m' l' h'=>(by injection List.mem_singleton.1 h' with e1 e2;exact .inr e1),fun o h=>(by cases h),fun o h=>(by cases h),.nil,fun o h=>(by cases h),fun _ _ _=>rfl⟩
def um(l:Nat)(o:Bool)(n:Nat):Bool:= !o&&decide (n≤l)
def X5(l:Nat)(o:Bool)(n:Nat):Nat:=if o then l else l-n
def E7(l:Nat)(o:Bool)(n:Nat):Bool:=o||decide (l<n)
theorem vc{n:Nat}(h:n≤l):um l false n=true:=by simp[um,h]
theorem Mr(l n:Nat):X5 l false n=l-n:=rfl
theorem Dl{n:Nat}(h:n≤l):E7 l false n=false:=by simp[E7];omega

theorem vd(hf:Qh st)(n:Int): ∃v st',QV 37 [iZ n] st v st'∧ ∃mp,v=.ptr mp 0 0∧st.n≤mp∧Qu st'.h.get mp 0 [iZ (n.toNat:Nat),.bool false]∧Qt st st':=by
 refine Jv Tryz.func37 Tryz.ntmps37 fun T K=>?_;have M:=Mem.start hf;refine Qb 2 K M fun _ K=>?_;refine p1 K (eO rfl rfl) fun _ K=>?_;refine au 3 K M ?_;intro c6 _ _ K _ M;refine Qb 0 K M ?_;refine⟨c6,rfl,(M.own c6 0 _ (List.mem_cons_self ..)).resolve_right Qx,?_,M.qt⟩;have hr9:=M.Ud (k:=0) rfl
 rwa [show max n 0=((n.toNat:Nat):Int) by omega]at hr9

theorem vb(hf:Qh st){mp:Nat}{o:Bool}(hr:Qu st.h.get mp 0 [iN l,.bool o]): ∃v st',QV 209 [.ptr mp 0 0] st v st'∧v=.bool o∧Qt st st':=by
 refine Jv Tryz.func209 Tryz.ntmps209 fun T K=>?_;have M:=Mem.start hf;refine Qb 2 K M fun _ K=>?_;refine p1 K (UA HQ rfl rfl) fun _ K=>?_;refine Qb 4 K M fun _ K=>?_;refine pg K rfl rfl (Qi rfl (Qr (M.Jf Qx hr.QI) (Qc Vt rfl))) fun _ K=>?_;refine Qb 2 K M ?_;exact⟨rfl,M.qt⟩

theorem OU(hf:Qh st){mp:Nat}{o:Bool}(hr:Qu st.h.get mp 0 [.int .i64 (l:Nat),.bool o])(hl:l≤9223372036854775807)(n:Nat)(hn:n≤9223372036854775807): ∃v st',QV 157 [.ptr mp 0 0,.int .i64 (n:Nat)] st v st'∧v=.bool (um l o n)∧(YH mp (X5 l o n) (E7 l o n)).H st'.h.get∧YA (fun c=>c=mp) st st':=by
 have B:=Ql.qY hf hr;refine aP rfl Tryz.func157 rfl Tryz.ntmps157 rfl fun T hT=>?_;have K:QH [(0,_),(1,_)] T:=(.cons (hT 0) (.cons (hT 1) .nil));have M:=B.mem;refine Qb 3 K M fun _ K=>?_;refine U5 K rfl (fun _ e8 K=>?_) fun _ e8 K=>?_
 ·refine Qb 1 K M fun _ K=>?_;obtain⟨v10,st10,ev10,rfl,q10⟩:=vb M.fresh (M.Ud (k:=0) rfl);refine pg K rfl rfl (Qf rfl ev10) fun _ K=>?_;replace M:=M.quiet q10;refine Qb 2 K M fun _ K=>?_;refine UJ K rfl (fun h5=>?_) fun h5=>?_
  ·have hb5:=h5;refine Qb 1 K M ?_;refine⟨congrArg AV.bool ?_,?_,(B.step M).U7⟩
   ·clear M B hr K hT
    cases o<;>simp_all [um]<;>omega
   ·have hr9:=M.Ud (k:=0) rfl
    have e9:([.int .i64 (X5 l o n:Nat),.bool (E7 l o n)]:List AV)=[.int .i64 (l:Nat),.bool o]:=by
     clear M B hr K hT hr9
     cases o<;>simp_all [X5,E7]<;>omega
    show Qu _ mp 0 [.int .i64 (X5 l o n:Nat),.bool (E7 l o n)];rw[e9];exact hr9
  have hb5:=h5;refine Qb 7 K M fun _ K=>?_;refine U8 K rfl (fun h12=>?_) fun h12=>?_
  ·refine au 9 K M ?_;intro _ _ K _ M;refine Qb 0 K M ?_;refine⟨congrArg AV.bool ?_,?_,(B.step M).U7⟩
   ·clear M B hr K hT
    cases o<;>simp_all [um]<;>omega
   ·have hr9:=M.Ud (k:=0) rfl
    have e9:([.int .i64 (X5 l o n:Nat),.bool (E7 l o n)]:List AV)=[.int .i64 0,.bool true]:=by
     clear M B hr K hT hr9
     cases o<;>simp_all [X5,E7]<;>omega
    show Qu _ mp 0 [.int .i64 (X5 l o n:Nat),.bool (E7 l o n)];rw[e9];exact hr9
  refine au 10 K M ?_;intro _ _ K _ M;refine Qb 0 K M ?_;refine⟨congrArg AV.bool ?_,?_,(B.step M).U7⟩
  ·clear M B hr K hT
   cases o<;>simp_all [um]<;>omega
  ·have hr9:=M.Ud (k:=0) rfl
   have e9:([.int .i64 (X5 l o n:Nat),.bool (E7 l o n)]:List AV)=[.int .i64 ((((l:Nat):Int)-((n:Nat):Int))),.bool o]:=by
    clear M B hr K hT hr9
    cases o<;>simp_all [X5,E7]<;>omega
   show Qu _ mp 0 [.int .i64 (X5 l o n:Nat),.bool (E7 l o n)];rw[e9];exact hr9
 refine Qb 6 K M ?_;refine⟨congrArg AV.bool ?_,?_,(B.step M).U7⟩
 ·clear M B hr K hT
  cases o<;>simp_all [um]<;>omega
 ·have hr9:=M.Ud (k:=0) rfl
  have e9:([.int .i64 (X5 l o n:Nat),.bool (E7 l o n)]:List AV)=[.int .i64 (l:Nat),.bool o]:=by
   clear M B hr K hT hr9
   cases o<;>simp_all [X5,E7]<;>omega
  show Qu _ mp 0 [.int .i64 (X5 l o n:Nat),.bool (E7 l o n)];rw[e9];exact hr9
end
section
variable {a:Au} {k s:Nat} {l:List Bool}

inductive fJ(a:Au)(k:Nat):Nat→Prop
 |acc {s:Nat} (h:a.ok s=true):fJ a k s
 |low {s:Nat} (h:fJ a k (a.go s 0)):fJ a k s
 |high {s:Nat} (h:fJ a k (a.go s (2^k))):fJ a k s
def Eg(l:List Bool)(s:Nat):Bool:=(l[s]?).getD false
structure AZ(a:Au)(k:Nat)(l:List Bool):Prop where
 len:l.length=a.n
 iff: ∀s,s<a.n→(Eg l s=true↔fJ a k s)
theorem AZ.uniq{l':List Bool}(h:AZ a k l)(h':AZ a k l'):l=l':=by
 apply List.ext_getElem?;intro s
 by_cases hs:s<a.n
 ·have e:Eg l s=Eg l' s:=by
   rw[Bool.eq_iff_iff,h.iff s hs,h'.iff s hs]
  unfold Eg at e;rw[List.getElem?_eq_getElem (by rw[h.len];exact hs),List.getElem?_eq_getElem (by rw[h'.len];exact hs)]at e ⊢;exact congrArg some e
 ·rw[List.getElem?_eq_none (by rw[h.len];omega),List.getElem?_eq_none (by rw[h'.len];omega)]
theorem UG{c:Nat}{r:List Int}{z:Int}(h1:a.nx[s]? =some r)(h2:r[c]? =some z):a.go s c=z.toNat:=by
 unfold Au.go;rw[h1,Option.getD_some,h2,Option.getD_some]
def ZS(l:List Bool):Nat:=l.countP fun b=> !b
theorem Ni: ∀{l:List Bool} {j:Nat},l[j]? =some false→ZS (l.set j true)+1=ZS l
 |[],j,h=>by simp at h
 |b::l,0,h=>by
  injection h with h
  subst h;rw[List.set_cons_zero,ZS,ZS,List.countP_cons,List.countP_cons];simp
 |b::l,j+1,h=>by
  have:=Ni (l:=l) (j:=j) h;rw[List.set_cons_succ,ZS,ZS,List.countP_cons,List.countP_cons];rw[ZS,ZS]at this;omega
theorem KS{j:Nat}{b:Bool}(hj:j<l.length):Eg (l.set j b) s=if s=j then b else Eg l s:=by
 unfold Eg;rw[List.getElem?_set]
 by_cases h:j=s
 ·subst h;rw[if_pos rfl,if_pos hj,if_pos rfl];rfl
 ·rw[if_neg h,if_neg fun e=>h e.symm]
theorem ZU{b:Bool}(h:l[s]? =some b):Eg l s=b:=by unfold Eg;rw[h];rfl
structure I5(a:Au)(k:Nat)(l:List Bool):Prop where
 len:l.length=a.n
 sound: ∀s,s<a.n→Eg l s=true→fJ a k s
 ext: ∀s,s<a.n→a.ok s=true→Eg l s=true
theorem I5.start(a:Au)(k:Nat):I5 a k a.acc:=⟨rfl,fun s _ h=>.acc h,fun s _ h=>h⟩
theorem I5.set{a:Au}{k s:Nat}{l:List Bool}(h:I5 a k l)(hs:s<a.n)(h0:a.go s 0<a.n)(h1:a.go s (2^k)<a.n)(hb:Eg l (a.go s 0)=true∨Eg l (a.go s (2^k))=true):I5 a k (l.set s true):=by
 have hl:s<l.length:=by rw[h.len];exact hs
 refine⟨by rw[List.length_set];exact h.len,fun t ht e=>?_,fun t ht e=>?_⟩
 ·rw[KS hl]at e
  by_cases hts:t=s
  ·subst hts;rcases hb with hb|hb
   ·exact .low (h.sound _ h0 hb)
   ·exact .high (h.sound _ h1 hb)
  ·rw[if_neg hts]at e;exact h.sound t ht e
 ·rw[KS hl]
  split
  ·rfl
  ·exact h.ext t ht e
def RZ(a:Au)(k:Nat)(l:List Bool)(s:Nat):Prop:=Eg l (a.go s 0)=true∨Eg l (a.go s (2^k))=true→Eg l s=true
theorem I5.done(h:I5 a k l)(W:Xu a)(hk:2^k<a.K)(hc: ∀s,s<a.n→RZ a k l s):AZ a k l:=by
 refine⟨h.len,fun s hs=>⟨h.sound s hs,fun hp=>?_⟩⟩;have hK:0<a.K:=Nat.two_pow_pos _
 induction hp with
 |acc e=>exact h.ext _ hs e
 |low _ ih=>exact hc _ hs (.inl (ih (W.Ya hs hK)))
 |high _ ih=>exact hc _ hs (.inr (ih (W.Ya hs hk)))
structure T7(a:Au)(k:Nat)(l0 l:List Bool)(more:Bool)(s:Nat):Prop where
 inv:I5 a k l
 le:ZS l≤ZS l0
 yes:more=true→ZS l<ZS l0
 no:more=false→l=l0∧ ∀t,t<s→RZ a k l t
theorem T7.start(h:I5 a k l):T7 a k l l false 0:=⟨h,Nat.le_refl _,fun e=>(by cases e),fun _=>⟨rfl,fun t ht=>absurd ht (Nat.not_lt_zero t)⟩⟩
theorem T7.keep{l0:List Bool}{more:Bool}(h:T7 a k l0 l more s)(hc:RZ a k l s):T7 a k l0 l more (s+1):=
 ⟨h.inv,h.le,h.yes,fun e=>⟨(h.no e).1,fun t ht=>by
  rcases Nat.lt_succ_iff_lt_or_eq.1 ht with h1|rfl
  ·exact(h.no e).2 t h1
  ·exact hc⟩⟩
theorem T7.set{a:Au}{k s:Nat}{l0 l:List Bool}{more:Bool}(h:T7 a k l0 l more s)(hs:s<a.n)(h0:a.go s 0<a.n)(h1:a.go s (2^k)<a.n)(hf:l[s]? =some false)(hb:Eg l (a.go s 0)=true∨Eg l (a.go s (2^k))=true):T7 a k l0 (l.set s true) true (s+1):=by
 have:=Ni hf;have:=h.le;exact⟨h.inv.set hs h0 h1 hb,by omega,fun _=>by omega,fun e=>(by cases e)⟩
def Gs(l:List Bool)(more:Bool):Nat:=2 *ZS l+(if more then 1 else 0)
theorem T7.l9{l0:List Bool}{more:Bool}(h:T7 a k l0 l more s):Gs l more<Gs l0 true:=by
 unfold Gs;rw[if_pos rfl]
 cases more with
 |true=>have:=h.yes rfl;rw[if_pos rfl];omega
 |false=>have:=h.le;rw[if_neg Q9];omega
end
end Go.Proofs.YtildagdnomiahaaGreatDoor
