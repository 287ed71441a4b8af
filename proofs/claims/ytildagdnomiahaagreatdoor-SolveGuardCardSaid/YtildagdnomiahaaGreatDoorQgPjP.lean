/-
  Facts on the program's types.
-/
import Derived.Test.YtildagdnomiahaaGreatDoorQgBdB
import Derived.Test.YtildagdnomiahaaGreatDoorQgCl
set_option maxRecDepth 100000
set_option linter.unusedVariables false
namespace Go.Proofs.YtildagdnomiahaaGreatDoor
section
open Go

theorem Ow:tk Tryz.prog 57=.one:=by kernel_rfl
theorem AJ:tk Tryz.prog 53=.one:=by kernel_rfl
theorem AM:UH Tryz.prog 53=some 1:=by kernel_rfl
theorem AD:zeroOf Tryz.prog 53=some [.nilf]:=by kernel_rfl
end
section
open Go

theorem UQ:tk Tryz.prog 311=.one:=by kernel_rfl
theorem QW:tk Tryz.prog 299=.one:=by kernel_rfl
theorem Zp:tk Tryz.prog 320=.one:=by kernel_rfl
end
section
open Go Go.RowKit
variable {a:Au}

def bC(l:List Bool):List (List AV):=l.map fun b=>[AV.bool b]
theorem XA(l:List Bool):(bC l).length=l.length:=by simp[bC]
theorem xX{l:List Bool}{i:Nat}{b:Bool}(h:l[i]? =some b):(bC l)[i]? =some [AV.bool b]:=by rw[bC,List.getElem?_map,h];rfl
theorem Gv(a b:List Bool):bC (a++b)=bC a++bC b:=by simp[bC]
theorem xW(l:List Bool): ∀cs∈bC l,cs.length=1:=by
 intro cs h;obtain⟨s,_,rfl⟩:=List.mem_map.1 h;rfl
def jB(F:Fp)(v:AV):Prop:= ∀c m o n y,v=.sl c m o n y→F c
theorem Acc.zi{n0 z:Nat}{A:QK}{kr:AV}{ls:List (List AV)}(hA:Acc n0 z A kr ls):jB (ZG A).F kr:=fun c m o n y e=>by
 cases hA with
 |none=>cases e
 |own h1 h2 h3=>injection e with e1 e2;subst e1;exact⟨_,_,List.mem_cons_self ..⟩
theorem YJ.zi{A:QK}{kr:AV}{vs:List AV}(hA:YJ A kr vs):jB (ZG A).F kr:=fun c m o n y e=>by
 cases hA with
 |none=>cases e
 |own h3=>injection e with e1 e2;subst e1;exact⟨_,_,List.mem_cons_self ..⟩
structure G1(h:Hp)(F:Fp)(vs:List AV)(LL:List (List Int)):Prop where
 ln:vs.length=LL.length
 at_: ∀(i:Nat) (s:List Int),LL[i]? =some s→ ∃v,vs[i]? =some v∧Je h [] 1 (zC s) v∧FE s∧jB F v
theorem G1.frame{h h':Hp}{F:Fp}{vs:List AV}{LL:List (List Int)}(e: ∀c,F c→h' c=h c)(H:G1 h F vs LL):G1 h' F vs LL:=
 ⟨H.ln,fun i s hi=>by
  obtain⟨v,h1,h2,h3,h4⟩:=H.at_ i s hi
  exact⟨v,h1,h2.frame fun c m o n y e'=>e c (h4 c m o n y e'),h3,h4⟩⟩
def RD(F:Fp)(vs:List AV)(LL:List (List Int)):Ob:=⟨F,fun h=>G1 h F vs LL,fun _ _ e H=>H.frame e⟩
structure YS(h:Hp)(F:Fp)(kn:AV)(vs:List AV)(LL:List (List Int)):Prop where
 rd:Je h [] 1 (vs.map fun v=>[v]) kn
 vs:G1 h F vs LL
 out:jB F kn
theorem YS.frame{h h':Hp}{F:Fp}{kn:AV}{vs:List AV}{LL:List (List Int)}(e: ∀c,F c→h' c=h c)(H:YS h F kn vs LL):YS h' F kn vs LL:=
 ⟨H.rd.frame fun c m o n y e'=>e c (H.out c m o n y e'),H.vs.frame e,H.out⟩
def LQ(F:Fp)(kn:AV)(vs:List AV)(LL:List (List Int)):Ob:=⟨F,fun h=>YS h F kn vs LL,fun _ _ e H=>H.frame e⟩
theorem YS.r{h:Hp}{F:Fp}{kn:AV}{vs:List AV}{LL:List (List Int)}(H:YS h F kn vs LL):Tz h LL kn (vs.map fun v=>[v]):=by
 refine⟨H.rd,by rw[List.length_map];exact H.vs.ln,fun i s hi=>?_⟩;obtain⟨v,k1,k2,k3,_⟩:=H.vs.at_ i s hi;exact⟨[v],by rw[List.getElem?_map,k1];rfl,v,rfl,k2,k3⟩
theorem YS.len{h:Hp}{F:Fp}{kn:AV}{vs:List AV}{LL:List (List Int)}(H:YS h F kn vs LL):JU kn=some LL.length:=H.r.len
section
variable {st0 st:St} {X0:Fp} {L A B M:QK} {Os:List Ob} {F:Fp} {vs:List AV} {LL:List (List Int)} {kr kn:AV} {row:List Int}
theorem Qj.eD{A B:QK}(H:Qj st0 X0 st (L++(A++B)) Os):Qj st0 X0 st (A++(L++B)) Os:=H.perm (by rw[←List.append_assoc,←List.append_assoc];exact List.perm_append_comm.append_right B)
theorem Qj.Kq(B:Qj st0 X0 st M Os):Qj st0 X0 st M (RD WA [] []::Os):=
 B.new ⟨B.fresh,Nat.le_refl _,fun _ _=>rfl⟩ ⟨rfl,fun i s hi=>by simp at hi⟩ fun c hc=>hc.elim
theorem Qj.L0(H:Qj st0 X0 st (L++(A++B)) (RD F vs LL::Os)){n0:Nat}(hA:Acc n0 1 A kr (zC row))(hz:FE row): ∃F',Qj st0 X0 st (L++B) (RD F' (vs++[kr]) (LL++[row])::Os):=by
 have hr:Je st.h.get [] 1 (zC row) kr:=Mem.Zj H.mem hA;have hin:=hA.zi;have B1:=H.eD.freeze (o:=⟨(ZG A).F,fun h=>Je h [] 1 (zC row) kr,fun h h' e r=>r.frame fun c m o n y e'=>e c (hin c m o n y e')⟩) hr (fun c hc=>hc);refine⟨fun c=>(ZG A).F c∨F c,B1.join (fun h1 h2=>⟨by rw[List.length_append,List.length_append,h2.ln];rfl,fun i s hi=>?_⟩) fun c hc=>hc⟩
 by_cases hl:i<LL.length
 ·rw[List.getElem?_append_left hl]at hi;obtain⟨v,k1,k2,k3,k4⟩:=h2.at_ i s hi;exact⟨v,by rw[List.getElem?_append_left (by rw[h2.ln];exact hl)];exact k1,k2,k3,fun c m o n y e=>.inr (k4 c m o n y e)⟩
 ·have hlt:=(List.getElem?_eq_some_iff.1 hi).1;rw[List.length_append,List.length_singleton]at hlt
  have hl:i=LL.length:=by omega
  subst hl;rw[List.getElem?_append_right (Nat.le_refl _),Nat.sub_self]at hi
  injection hi with hi
  subst hi;exact⟨kr,by rw[List.getElem?_append_right (by rw[h2.ln];exact Nat.le_refl _),h2.ln,Nat.sub_self];rfl,h1,hz,fun c m o n y e=>.inl (hin c m o n y e)⟩
theorem Qj.TC(H:Qj st0 X0 st (L++(A++B)) (RD F vs LL::Os))(hA:YJ A kn vs): ∃F',Qj st0 X0 st (L++B) (LQ F' kn vs LL::Os):=by
 have hr:Je st.h.get [] 1 (vs.map fun v=>[v]) kn:=hA.rd fun c m l hm=>H.row c m l (by simp[hm]);have hin:=hA.zi;have B1:=H.eD.freeze (o:=⟨(ZG A).F,fun h=>Je h [] 1 (vs.map fun v=>[v]) kn,fun h h' e r=>r.frame fun c m o n y e'=>e c (hin c m o n y e')⟩) hr (fun c hc=>hc);refine⟨fun c=>(ZG A).F c∨F c,B1.join (fun h1 h2=>⟨h1,⟨h2.ln,fun i s hi=>?_⟩,fun c m o n y e=>.inl (hin c m o n y e)⟩) fun c hc=>hc⟩;obtain⟨v,k1,k2,k3,k4⟩:=h2.at_ i s hi;exact⟨v,k1,k2,k3,fun c m o n y e=>.inr (k4 c m o n y e)⟩
end
def CP(h:Hp)(F:Fp)(dp:Nat)(a:Au):Prop:=
 ∃(ka kr:AV) (sp:Nat) (F1:Fp) (S:JW) (roots:List Nat),Qw h dp 0 [ka,kr,.ptr sp 0 0]∧F dp∧Je h [] 1 (bC a.acc) ka∧jB F ka∧Je h [] 1 (zC (roots.map fun r=>((r:Nat):Int))) kr∧jB F kr∧Ef h F1 sp a.tr S∧(∀c,F1 c→F c)∧Zo a.tr S∧ZP a∧roots.length=a.n∧
  ∀(s r:Nat),roots[s]? =some r→r<S.length∧a.nx[s]? =some (VQ a.tr S r)
theorem CP.frame{h h':Hp}{F:Fp}{dp:Nat}{a:Au}(e: ∀c,F c→h' c=h c)(H:CP h F dp a):CP h' F dp a:=by
 obtain⟨ka,kr,sp,F1,S,roots,h1,h2,h3,h4,h5,h6,h7,h8,h9⟩:=H;exact⟨ka,kr,sp,F1,S,roots,h1.frame (e dp h2),h2,h3.frame fun c m o n y e'=>e c (h4 c m o n y e'),h4,h5.frame fun c m o n y e'=>e c (h6 c m o n y e'),h6,h7.frame fun c hc=>e c (h8 c hc),h8,h9⟩
def Ak(F:Fp)(dp:Nat)(a:Au):Ob:=⟨F,fun h=>CP h F dp a,fun _ _ e H=>H.frame e⟩
structure JH(st:St)(F:Fp)(dp:Nat)(a:Au):Prop where
 at_:CP st.h.get F dp a
 hi: ∀c,F c→c<st.n
theorem JH.q{st st':St}{F:Fp}{dp:Nat}{a:Au}(hD:JH st F dp a)(q:Qt st st'):JH st' F dp a:=⟨hD.at_.frame fun c hc=>q.J0 c (hD.hi c hc),fun c hc=>Nat.lt_of_lt_of_le (hD.hi c hc) q.le⟩
theorem JH.wf{st:St}{F:Fp}{dp:Nat}(hD:JH st F dp a):ZP a:=by
 obtain⟨_,_,_,_,_,_,_,_,_,_,_,_,_,_,_,h,_⟩:=hD.at_;exact h
theorem Qj.SU{st0 st:St}{X0 F:Fp}{M:QK}{Os:List Ob}{dp:Nat}(B:Qj st0 X0 st M Os){k:Nat}(hk:Os[k]? =some (Ak F dp a)):JH st F dp a:=⟨B.at_ hk,B.Vj hk⟩
theorem ZP.DN(W:ZP a): ∀r∈a.nx,FE r:=fun r hr z hz=>by
 obtain⟨_,h⟩:=W.row r hr;have:=h z hz;have:=W.most;omega
end
section
open Go Go.RowKit

theorem eR:Tryz.prog.cellsOf 9=1∧Tryz.prog.cellsOf 3=1∧Tryz.prog.cellsOf 42=1:=⟨by kernel_rfl,by kernel_rfl,by kernel_rfl⟩
theorem uk{H:Type}{h:Hp}{xs:List AV}{d:DataW H}(r:Rd Tryz.prog h 9 xs d): ∃s,xs=[.str s]:=by
 have u:Tryz.prog.underlying 9=some .string:=by kernel_rfl
 cases r with
 |bool ht=>rw[u]at ht;cases ht
 |int ht hw=>rw[u]at ht;cases ht
 |str ht hs=>exact⟨_,rfl⟩
 |nil ht=>rw[u]at ht;cases ht
 |none ht=>rw[u]at ht;cases ht
 |row ht hz hr hl' he hm hd=>rw[u]at ht;cases ht
 |agg ht hl' hp hd=>rw[u]at ht;cases ht
end
section
open Go Go.RowKit

abbrev yP:=List Nat×Int×Int
def T0(d:yP)(cs:List AV):Prop:=cs=[.str d.1,.int .i64 d.2.1,.int .i64 d.2.2]
theorem vA: ∃f0 f1 f2:Field,Tryz.prog.underlying 40=some (.struct #[f0,f1,f2])∧(f0.type=9∧f0.offset=0)∧(f1.type=3∧f1.offset=1)∧(f2.type=3∧f2.offset=2):=⟨_,_,_,Tryz.underlying40,⟨rfl,rfl⟩,⟨rfl,rfl⟩,⟨rfl,rfl⟩⟩
theorem zp:Tryz.prog.cellsOf 40=3:=by kernel_rfl
theorem zB:Tryz.prog.underlying 22=some (.slice 40):=by kernel_rfl
theorem um{H:Type}{h:Hp}{xs:List AV}{d:DataW H}(r:Rd Tryz.prog h 40 xs d): ∃k:yP,T0 k xs:=by
 obtain⟨f0,f1,f2,u,⟨t0,o0⟩,⟨t1,o1⟩,⟨t2,o2⟩⟩:=vA
 cases r with
 |bool ht=>rw[u]at ht;cases ht
 |int ht hw=>rw[u]at ht;cases ht
 |str ht hs=>rw[u]at ht;cases ht
 |nil ht=>rw[u]at ht;cases ht
 |none ht=>rw[u]at ht;cases ht
 |row ht hz hr hl he hm hd=>rw[u]at ht;cases ht
 |agg ht hl hp hd=>
  rename_i fs parts;rw[u]at ht
  injection ht with ht
  injection ht with ht
  subst ht;rw[zp]at hl
  obtain⟨a0,a1,a2,rfl⟩: ∃a0 a1 a2,xs=[a0,a1,a2]:=by
   match xs,hl with
   |[a0,a1,a2],_=>exact⟨_,_,_,rfl⟩
  obtain⟨d0,d1,d2,rfl⟩: ∃a0 a1 a2,parts=[a0,a1,a2]:=by
   match parts,hp with
   |[a0,a1,a2],_=>exact⟨_,_,_,rfl⟩
  obtain⟨cs,ci,_⟩:=eR;have r0:=hd 0 f0 d0 rfl rfl;have r1:=hd 1 f1 d1 rfl rfl;have r2:=hd 2 f2 d2 rfl rfl;rw[t0,o0,cs]at r0;rw[t1,o1,ci]at r1;rw[t2,o2,ci]at r2;obtain⟨s0,e0⟩:=uk r0;obtain⟨s1,e1,_⟩:=PI r1;obtain⟨s2,e2,_⟩:=PI r2
  injection e0 with e0;injection e1 with e1;injection e2 with e2
  subst e0 e1 e2;exact⟨(s0,s1,s2),rfl⟩
def R9(h:Hp)(l:List yP)(kk:AV)(ls:List (List AV)):Prop:=ZQ h 3 T0 l kk ls
theorem Dw:Br Tryz.prog [22,40,9,3]=true:=by kernel_rfl
theorem DQ{H:Type}{enc:TypeId×Value→H}{W:World}{ml:HU}(hM:ZT W ml){v:Value}{d:DataW H}{p:List MemPlace}(h:DataW.Trod enc Tryz.prog W 0 (fun _=>true) true 22 v d p)(hna: ∀cs,v≠ .agg cs):
  ∃ml' ks l ls,ml<+:ml'∧ZT W ml'∧R9 (A9 ml') l ks ls∧WF (A9 ml') ks∧Qd (L8 ml') ks=v:=by
 obtain⟨fuel,h⟩:=h;obtain⟨ml',cs,h1,h2,h3,h4,h5,h6⟩:=lift _ Dw fuel 22 _ d p ml Qx h hM;obtain⟨ks,l,ls,rfl,hr⟩:=TW (R:=T0) ([],0,0) zB zp (fun cs d r=>um r) h6;refine⟨ml',ks,l,ls,h1,h2,hr,?_,?_⟩
 ·first|exact h4.1|exact h4|simpa [WF,Yt]using h4
 ·obtain⟨e1,e2⟩:=Nr h3 h5;obtain⟨a,e,h⟩:=e2 hna
  injection e with e
  rw[e];exact h
end
section
open Go

theorem Ot:Tryz.prog.underlying 49=some (.slice 91):=by kernel_rfl
theorem IG:zeroOf Tryz.prog 91=some [.str [],.int .i64 0,.nils]:=by kernel_rfl
theorem O2:AA Tryz.prog 49 91 3:=⟨Ot,by kernel_rfl,⟨_,IG,rfl⟩,by kernel_rfl,by decide,by decide+kernel⟩
end
section
variable {a:Au} {k s:Nat} {l:List Bool}

inductive vm(a:Au)(k:Nat):Nat→Prop
 |acc {s:Nat} (h:a.ok s=true):vm a k s
 |low {s:Nat} (h:vm a k (a.go s 0)):vm a k s
 |high {s:Nat} (h:vm a k (a.go s (2^k))):vm a k s
def Wu(l:List Bool)(s:Nat):Bool:=(l[s]?).getD false
structure ES(a:Au)(k:Nat)(l:List Bool):Prop where
 len:l.length=a.n
 iff: ∀s,s<a.n→(Wu l s=true↔vm a k s)
theorem ES.uniq{l':List Bool}(h:ES a k l)(h':ES a k l'):l=l':=by
 apply List.ext_getElem?;intro s
 by_cases hs:s<a.n
 ·have e:Wu l s=Wu l' s:=by
   rw[Bool.eq_iff_iff,h.iff s hs,h'.iff s hs]
  unfold Wu at e;rw[List.getElem?_eq_getElem (by rw[h.len];exact hs),List.getElem?_eq_getElem (by rw[h'.len];exact hs)]at e ⊢;exact congrArg some e
 ·rw[List.getElem?_eq_none (by rw[h.len];omega),List.getElem?_eq_none (by rw[h'.len];omega)]
theorem U3{c:Nat}{r:List Int}{z:Int}(h1:a.nx[s]? =some r)(h2:r[c]? =some z):a.go s c=z.toNat:=by
 unfold Au.go;rw[h1,Option.getD_some,h2,Option.getD_some]
def Zx(l:List Bool):Nat:=l.countP fun b=> !b
theorem KS: ∀{l:List Bool} {j:Nat},l[j]? =some false→Zx (l.set j true)+1=Zx l
 |[],j,h=>by simp at h
 |b::l,0,h=>by
  injection h with h
  subst h;rw[List.set_cons_zero,Zx,Zx,List.countP_cons,List.countP_cons];simp
 |b::l,j+1,h=>by
  have:=KS (l:=l) (j:=j) h;rw[List.set_cons_succ,Zx,Zx,List.countP_cons,List.countP_cons];rw[Zx,Zx]at this;omega
theorem IC{j:Nat}{b:Bool}(hj:j<l.length):Wu (l.set j b) s=if s=j then b else Wu l s:=by
 unfold Wu;rw[List.getElem?_set]
 by_cases h:j=s
 ·subst h;rw[if_pos rfl,if_pos hj,if_pos rfl];rfl
 ·rw[if_neg h,if_neg fun e=>h e.symm]
theorem Zz{b:Bool}(h:l[s]? =some b):Wu l s=b:=by unfold Wu;rw[h];rfl
structure Hw(a:Au)(k:Nat)(l:List Bool):Prop where
 len:l.length=a.n
 sound: ∀s,s<a.n→Wu l s=true→vm a k s
 ext: ∀s,s<a.n→a.ok s=true→Wu l s=true
theorem Hw.start(a:Au)(k:Nat):Hw a k a.acc:=⟨rfl,fun s _ h=>.acc h,fun s _ h=>h⟩
theorem Hw.set{a:Au}{k s:Nat}{l:List Bool}(h:Hw a k l)(hs:s<a.n)(h0:a.go s 0<a.n)(h1:a.go s (2^k)<a.n)(hb:Wu l (a.go s 0)=true∨Wu l (a.go s (2^k))=true):Hw a k (l.set s true):=by
 have hl:s<l.length:=by rw[h.len];exact hs
 refine⟨by rw[List.length_set];exact h.len,fun t ht e=>?_,fun t ht e=>?_⟩
 ·rw[IC hl]at e
  by_cases hts:t=s
  ·subst hts;rcases hb with hb|hb
   ·exact .low (h.sound _ h0 hb)
   ·exact .high (h.sound _ h1 hb)
  ·rw[if_neg hts]at e;exact h.sound t ht e
 ·rw[IC hl]
  split
  ·rfl
  ·exact h.ext t ht e
def Pz(a:Au)(k:Nat)(l:List Bool)(s:Nat):Prop:=Wu l (a.go s 0)=true∨Wu l (a.go s (2^k))=true→Wu l s=true
theorem Hw.done(h:Hw a k l)(W:ZP a)(hk:2^k<a.K)(hc: ∀s,s<a.n→Pz a k l s):ES a k l:=by
 refine⟨h.len,fun s hs=>⟨h.sound s hs,fun hp=>?_⟩⟩;have hK:0<a.K:=Nat.two_pow_pos _
 induction hp with
 |acc e=>exact h.ext _ hs e
 |low _ ih=>exact hc _ hs (.inl (ih (W.UJ hs hK)))
 |high _ ih=>exact hc _ hs (.inr (ih (W.UJ hs hk)))
structure RB(a:Au)(k:Nat)(l0 l:List Bool)(more:Bool)(s:Nat):Prop where
 inv:Hw a k l
 le:Zx l≤Zx l0
 yes:more=true→Zx l<Zx l0
 no:more=false→l=l0∧ ∀t,t<s→Pz a k l t
theorem RB.start(h:Hw a k l):RB a k l l false 0:=⟨h,Nat.le_refl _,fun e=>(by cases e),fun _=>⟨rfl,fun t ht=>absurd ht (Nat.not_lt_zero t)⟩⟩
theorem RB.keep{l0:List Bool}{more:Bool}(h:RB a k l0 l more s)(hc:Pz a k l s):RB a k l0 l more (s+1):=
 ⟨h.inv,h.le,h.yes,fun e=>⟨(h.no e).1,fun t ht=>by
  rcases Nat.lt_succ_iff_lt_or_eq.1 ht with h1|rfl
  ·exact(h.no e).2 t h1
  ·exact hc⟩⟩
theorem RB.set{a:Au}{k s:Nat}{l0 l:List Bool}{more:Bool}(h:RB a k l0 l more s)(hs:s<a.n)(h0:a.go s 0<a.n)(h1:a.go s (2^k)<a.n)(hf:l[s]? =some false)(hb:Wu l (a.go s 0)=true∨Wu l (a.go s (2^k))=true):RB a k l0 (l.set s true) true (s+1):=by
 have:=KS hf;have:=h.le;exact⟨h.inv.set hs h0 h1 hb,by omega,fun _=>by omega,fun e=>(by cases e)⟩
def NY(l:List Bool)(more:Bool):Nat:=2 *Zx l+(if more then 1 else 0)
theorem RB.ei{l0:List Bool}{more:Bool}(h:RB a k l0 l more s):NY l more<NY l0 true:=by
 unfold NY;rw[if_pos rfl]
 cases more with
 |true=>have:=h.yes rfl;rw[if_pos rfl];omega
 |false=>have:=h.le;rw[if_neg Q8];omega
end
end Go.Proofs.YtildagdnomiahaaGreatDoor
