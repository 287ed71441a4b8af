/-
  What the reckoner knows of solve: found, by a table of closed formulas.
-/
import Derived.Test.YtildagdnomiahaaGreatDoorQvLst
set_option maxRecDepth 1000000
set_option maxHeartbeats 8000000
set_option linter.unnecessarySimpa false
set_option linter.unusedSectionVars false
set_option linter.unusedSimpArgs false
set_option linter.unusedVariables false
namespace Go.Proofs.YtildagdnomiahaaGreatDoor
section
open Go Go.RowKit

theorem LW:Real Tryz.prog 38:=⟨_,Tryz.func38,rfl,by decide+kernel⟩
noncomputable def aU(tbl:List Ce):Env:=⟨fun _=>false,Gg Gu,Hr ((38,OG 49 tbl)::IC),W0⟩
theorem ME{tbl:List Ce}(ht: ∀e∈tbl,e.ok=true):W2 Tryz.prog (aU tbl) 38 (OG 49 tbl):=
 qW (G0:=DM) LW (fun w0 p h=>h) Hy mixed ht fun e m st R kv cs mp n h1 h2 h3 h4 h5 hf hR hr hRm hkv hns hm hl hs=>by
  obtain⟨⟨o,a,b,g,k,l⟩,r,s⟩:=e
  cases r with
  |true=>exact D9 hf hR hr hRm hm hl hkv h1 hs h4 h5 (h3 rfl)
  |false=>exact R1 hf hR hr hRm hm hl hkv h1 hs h4 h5 h2
theorem vC{tbl:List Ce}(ht: ∀e∈tbl,e.ok=true):Ea Tryz.prog (aU tbl):=⟨fun f q h=>N8 (f,q) (Ir h),fun f sm h=>by
 have h:Qj (Nat.beq f 38) (some (OG 49 tbl)) (Hr IC f)=some sm:=h
 cases hb:Nat.beq f 38 with
 |true=>
  rw[hb]at h
  injection h with h
  subst h;rw[Nat.eq_of_beq_eq_true hb];exact ME ht
 |false=>
  rw[hb]at h
  exact Hy.sums f sm h⟩
def jV(x:Cr):Cr:=.mk [110,111,116] 0 0 0 0 [x]
def core0:Cr:=.mk [110,111,116] 0 0 0 0 [.mk [101,120] 0 0 0 0 [.mk [97,110,100] 0 0 0 0 [.mk [115,105,110,103] 0 0 0 0 [],.mk [110,111,116] 0 0 0 0 [.mk [101,120] 1 0 0 0 [.mk [97,110,100] 0 0 0 0 [.mk [115,105,110,103] 1 0 0 0 [],.mk [108,101,115,115] 0 1 0 0 []]]]]]]
def ic:List Ce:=[⟨core0,true,25⟩,⟨jV core0,false,26⟩]
theorem zX: ∀e∈ic,e.ok=true:=by decide+kernel
end
section
open Go

theorem Bw:isTrue (Jp Tryz.prog (aU ic) 10000 1000 16 [] ⟨0,.nil⟩)=true:=by decide+kernel
end
section
open Go Go.RowKit

theorem Yr.flat{R:W5}{A B:ZJ}{k:Cr}{cs:List AV}(r:Yr (Yz (Yz R A) B) k cs):Yr (Yz R (B++A)) k cs:=r.mono fun c m l h=>by
 rcases h with(h|h)|h
 ·exact .inl h
 ·exact .inr (List.mem_append_right _ h)
 ·exact .inr (List.mem_append_left _ h)
def nF(w:Int)(x:Cr):Cr:=.mk [101,120] w 0 0 0 [x]
def NC(x y:Cr):Cr:=.mk [97,110,100] 0 0 0 0 [x,y]
def l5(w:Int):Cr:=.mk [110,117,109] w 0 0 0 []
def ll(a b:Int):Cr:=.mk [115,117,98] a b 0 0 []
def il(a:Int):Cr:=.mk [115,105,110,103] a 0 0 0 []
def gS(w:Int)(c:Cr)(i:Int)(o:Int):Cr:=if o=0 then NC c (nF w (NC (l5 w) (ll i w)))else if o=1 then NC c (il i)else c
def gC(w:Int)(ds:List NM):Nat→Cr
 |0=>.mk [116,114,117,101] 0 0 0 0 []
 |i+1=>gS w (gC w ds i) ((i:Nat):Int) (((ds[i]?).getD ([],0,0)).2.1)
theorem B5{w:Int}{ds:List NM}{i:Nat}{d:NM}(h:ds[i]? =some d):gC w ds (i+1)=gS w (gC w ds i) ((i:Nat):Int) d.2.1:=by rw[gC,h];rfl

end
section
open Go Go.RowKit
variable {R:W5} {kv:AV} {st:St}

def fP(d:NM):List AV:=[.str d.1,.int .i64 d.2.1,.int .i64 d.2.2]
theorem CN{h:Hp}{ds:List NM}(r:Jg h [] 3 (ds.map fP) kv):AX h 3 fI ds kv (ds.map fP):=⟨r,List.length_map _,fun i k hi=>⟨_,by rw[List.getElem?_map,hi];rfl,rfl⟩⟩
theorem Gl{x y:Cr}{m:Int}(hx:Ja x m=true)(hy:Ja y m=true):Ja (NC x y) m=true:=Iy hx hy
theorem Sn(x y:Cr):Xx (NC x y)=Xx x+Xx y+1:=GJ x y

theorem FZ(hf:Qh st){xo1:List Nat}{xa1 xb1 xc1 xn1:Int}{xk1:AV}{x1:Cr}(h1:Yr R x1 [.str xo1,iZ xa1,iZ xb1,iZ xc1,iZ xn1,xk1]){xo2:List Nat}{xa2 xb2 xc2 xn2:Int}{xk2:AV}{x2:Cr}(h2:Yr R x2 [.str xo2,iZ xa2,iZ xb2,iZ xc2,iZ xn2,xk2]): ∃v st',QV 32 [.agg [.str xo1,iZ xa1,iZ xb1,iZ xc1,iZ xn1,xk1],.agg [.str xo2,iZ xa2,iZ xb2,iZ xc2,iZ xn2,xk2]] st v st'∧qo R st st' (NC x1 x2) v∧Qt st st':=by
 refine Jv Tryz.func32 Tryz.ntmps32 fun T K=>?_;have M:=Mem.start hf;refine Qb 0 K M fun _ K=>?_;refine JK K M rfl (Qa rfl (Qa rfl (Qa rfl (Qa rfl (Qa rfl (Qa h1.H8 QL)))))) Q9 fun c2 _ _ K M=>?_;refine JK K M rfl (Qa rfl (Qa rfl (Qa rfl (Qa rfl (Qa rfl (Qa h2.H8 QL)))))) Q9 fun c3 _ _ K M=>?_;refine au 3 K M ?_;intro c4 _ _ K _ M;refine VO K M ZW Zn rfl rfl (Qa rfl (Qa rfl (Qa rfl (Qa rfl (Qa rfl (Qa h1.H8 (Qa rfl (Qa rfl (Qa rfl (Qa rfl (Qa rfl (Qa h2.H8 QL)))))))))))) rfl rfl fun c7 _ _ K M=>?_;refine au 2 K M ?_;intro _ _ K _ M;refine Qb 0 K M ?_;exact⟨qo.of (A:=((c7,0,[.str xo1,iZ xa1,iZ xb1,iZ xc1,iZ xn1,xk1,.str xo2,iZ xa2,iZ xb2,iZ xc2,iZ xn2,xk2])::(c4,0,[.str [97,110,100],iZ 0,iZ 0,iZ 0,iZ 0,(.sl c7 0 0 2 6)])::(c3,0,[.str xo2,iZ xa2,iZ xb2,iZ xc2,iZ xn2,xk2])::(c2,0,[.str xo1,iZ xa1,iZ xb1,iZ xc1,iZ xn1,xk1])::[])) (aB Qx (Yr.mono (fun _ _ _ h=>.inl h) h1) (Yr.mono (fun _ _ _ h=>.inl h) h2)) (M.kQ (.refl _)),M.qt⟩

theorem OM(hf:Qh st){ds:List NM}{kd:AV}{ld:List (List AV)}(hD:kM st.h.get ds kd ld): ∃v st',QV 14 [kd] st v st'∧qo R st st' (gC ((ds.length:Nat):Int) ds ds.length) v∧Qt st st':=by
 have hD:AX st.h.get 3 fI ds kd ld:=hD;have hln:=hD.ln
 have hbn:(ds.length:Int)≤9223372036854775807:=by have:=hD.r.AW;rw[hD.ln]at this;exact this
 refine Jv Tryz.func14 Tryz.ntmps14 fun T K=>?_;have M:=Mem.start hf;refine au 5 K M ?_;intro c2 c3 _ _ K _ M;refine p1 K (Q0 QJ rfl rfl (hD.r.len.trans (congrArg some hD.ln))) fun _ K=>?_;refine Qb 2 K M fun _ K=>?_;refine p1 K (Q0 QJ rfl rfl (hD.r.len.trans (congrArg some hD.ln))) fun _ K=>?_;refine Qb 1 K M fun _ K=>?_;refine Je (fun mm1 T st9=> ∃(i:Nat) (ov:List Nat) (av bv cv nv:Int) (kkv:AV) (A:ZJ),mm1=ds.length-i∧QH [(2,.ptr c2 0 0),(3,.ptr c3 0 0),(4,iZ (ds.length:Nat)),(11,kd),(12,iZ (ds.length:Nat)),(13,iN i)] T∧Mem st.h.get st.n [] st9 ((c3,0,[.str ov,iZ av,iZ bv,iZ cv,iZ nv,kkv])::(c2,0,[.str [],iZ 0,iZ 0,iZ 0,iZ 0,.nils])::(A++[]))∧i≤ds.length∧Yr (Yz R A) (gC ((ds.length:Nat):Int) ds i) [.str ov,iZ av,iZ bv,iZ cv,iZ nv,kkv]) (fun mm1 T st9 hI=>?_) _ _ _ ⟨0,[116,114,117,101],0,0,0,0,.nils,[],rfl,(K.sub rfl),M.less (.refl _),(Nat.zero_le _),LQ⟩;obtain⟨i,ov,av,bv,cv,nv,kkv,A,rfl,K,M,hil,hA⟩:=hI;refine Qb 1 K M fun _ K=>?_;refine U8 K rfl (fun h14=>?_) fun h14=>?_
 ·refine Qb 1 K M fun _ K=>?_;obtain⟨⟨dn16,do16,da16⟩,hi16⟩: ∃k,ds[i]? =some k:=⟨_,List.getElem?_eq_getElem Qd⟩;obtain⟨_,hc16,rfl⟩:=hD.at_ _ _ hi16;refine aA (hD.r.mem M Qx) hc16 K ZZ Xg rfl rfl fun _ _ _ _ K=>?_;refine au 7 K M ?_;intro c6 _ _ K _ M;refine U8 K rfl (fun h20=>?_) fun h20=>?_
  ·refine Qb 5 K M fun _ K=>?_;obtain⟨v27,st27,ev27,⟨on27,an27,bn27,cn27,nn27,kkn27,A27,rfl,hS27,hN27⟩,q27⟩:=FZ (R:=R) M.fresh LQ LQ;refine p1 K (Qf rfl ev27) fun _ K=>?_;replace M:=M.BK q27 hS27;simp only[W4]at M;refine au 1 K M ?_;intro c7 _ _ K _ M;refine Uh (k:=0) K M rfl rfl rfl Ub rfl (Qa rfl (Qa rfl (Qa rfl (Qa rfl (Qa rfl (Qa hN27.H8 QL)))))) rfl fun _ M=>?_;refine Qb 3 K M fun _ K=>?_;refine VO K M ZW Zn rfl rfl (Qa rfl (Qa rfl (Qa rfl (Qa rfl (Qa rfl (Qa hN27.H8 QL)))))) rfl rfl fun c31 _ _ K M=>?_;refine Qb 1 K M fun _ K=>?_;replace M:=Mem.cast (M':=(((c7,0,[.str on27,iZ an27,iZ bn27,iZ cn27,iZ nn27,kkn27])::(c6,0,[.str dn16,iZ do16,iZ da16])::(c3,0,[.str ov,iZ av,iZ bv,iZ cv,iZ nv,kkv])::(c2,0,[.str [],iZ 0,iZ 0,iZ 0,iZ 0,.nils])::(A++(A27++[])))++([(c31,0,[.str on27,iZ an27,iZ bn27,iZ cn27,iZ nn27,kkn27])]++[]))) (Mem.perm M (List.perm_append_comm (α:=Nat×Nat×List AV) (l₁:=[(c31,0,[.str on27,iZ an27,iZ bn27,iZ cn27,iZ nn27,kkn27])]) (l₂:=((c7,0,[.str on27,iZ an27,iZ bn27,iZ cn27,iZ nn27,kkn27])::(c6,0,[.str dn16,iZ do16,iZ da16])::(c3,0,[.str ov,iZ av,iZ bv,iZ cv,iZ nv,kkv])::(c2,0,[.str [],iZ 0,iZ 0,iZ 0,iZ 0,.nils])::(A++(A27++[])))))) Za;simp only[W4]at M;obtain⟨v33,st33,ev33,⟨on33,an33,bn33,cn33,nn33,kkn33,A33,rfl,hS33,hN33⟩,q33⟩:=FZ (R:=(Yz R (A++([(c31,0,[.str on27,iZ an27,iZ bn27,iZ cn27,iZ nn27,kkn27])]++A27)))) M.fresh (hA.mono (Uk (fun _ _ _ h=>h) (fun x h=>by first|(simp[h];done)|(simp at h;simp[h];done)))) (aC (x:=c31) Qx (hN27.mono (Uk (fun _ _ _ h=>h) (fun x h=>by first|(simp[h];done)|(simp at h;simp[h];done)))));refine p1 K (Qf rfl ev33) fun _ K=>?_;replace M:=M.BK q33 hS33;replace hN33:=hN33.flat;simp only[W4]at M;refine Uh (k:=2) K M rfl rfl rfl Ub rfl (Qa rfl (Qa rfl (Qa rfl (Qa rfl (Qa rfl (Qa hN33.H8 QL)))))) rfl fun _ M=>?_;refine Qb 2 K M fun _ K=>?_;replace M:=Mem.cast (M':=((c7,0,[.str on27,iZ an27,iZ bn27,iZ cn27,iZ nn27,kkn27])::(c6,0,[.str dn16,iZ do16,iZ da16])::(c3,0,[.str on33,iZ an33,iZ bn33,iZ cn33,iZ nn33,kkn33])::(c2,0,[.str [],iZ 0,iZ 0,iZ 0,iZ 0,.nils])::((A++(A27++([(c31,0,[.str on27,iZ an27,iZ bn27,iZ cn27,iZ nn27,kkn27])]++A33)))++[]))) M Qx
   have hgA:Yr (Yz R (A++(A27++([(c31,0,[.str on27,iZ an27,iZ bn27,iZ cn27,iZ nn27,kkn27])]++A33)))) (gC ((ds.length:Nat):Int) ds (i+1)) [.str on33,iZ an33,iZ bn33,iZ cn33,iZ nn33,kkn33]:=by
    rw[B5 hi16];unfold gS
    first
    |(simp only[if_pos (by assumption:_)];exact(hN33.mono (Uk (fun _ _ _ h=>h) (fun x hx=>by simp only[List.mem_append]at hx;rcases hx with h|h|h|h<;>first|(simp[h];done)|(simp at h;simp[h];done)))))
    |(rw[if_neg (by assumption),if_pos (by assumption)];exact(hN33.mono (Uk (fun _ _ _ h=>h) (fun x hx=>by simp only[List.mem_append]at hx;rcases hx with h|h|h|h<;>first|(simp[h];done)|(simp at h;simp[h];done)))))
    |(rw[if_pos (by assumption)];exact(hN33.mono (Uk (fun _ _ _ h=>h) (fun x hx=>by simp only[List.mem_append]at hx;rcases hx with h|h|h|h<;>first|(simp[h];done)|(simp at h;simp[h];done)))))
    |(rw[if_neg (by assumption),if_neg (by assumption)];exact(hN33.mono (Uk (fun _ _ _ h=>h) (fun x hx=>by simp only[List.mem_append]at hx;rcases hx with h|h|h|h<;>first|(simp[h];done)|(simp at h;simp[h];done)))))
   exact⟨_,Qd,i+1,on33,an33,bn33,cn33,nn33,kkn33,(A++(A27++([(c31,0,[.str on27,iZ an27,iZ bn27,iZ cn27,iZ nn27,kkn27])]++A33))),rfl,(K.sub rfl),M.less (.cons _ (.cons _ (.refl _))),Qd,hgA⟩
  refine Qb 2 K M fun _ K=>?_;refine U8 K rfl (fun h34=>?_) fun h34=>?_
  ·refine Qb 3 K M fun _ K=>?_;obtain⟨v39,st39,ev39,⟨on39,an39,bn39,cn39,nn39,kkn39,A39,rfl,hS39,hN39⟩,q39⟩:=FZ (R:=(Yz R A)) M.fresh hA LQ;refine p1 K (Qf rfl ev39) fun _ K=>?_;replace M:=M.BK q39 hS39;replace hN39:=hN39.flat;simp only[W4]at M;refine Uh (k:=1) K M rfl rfl rfl Ub rfl (Qa rfl (Qa rfl (Qa rfl (Qa rfl (Qa rfl (Qa hN39.H8 QL)))))) rfl fun _ M=>?_;refine Qb 2 K M fun _ K=>?_;replace M:=Mem.cast (M':=((c6,0,[.str dn16,iZ do16,iZ da16])::(c3,0,[.str on39,iZ an39,iZ bn39,iZ cn39,iZ nn39,kkn39])::(c2,0,[.str [],iZ 0,iZ 0,iZ 0,iZ 0,.nils])::((A++A39)++[]))) M Qx
   have hgA:Yr (Yz R (A++A39)) (gC ((ds.length:Nat):Int) ds (i+1)) [.str on39,iZ an39,iZ bn39,iZ cn39,iZ nn39,kkn39]:=by
    rw[B5 hi16];unfold gS
    first
    |(simp only[if_pos (by assumption:_)];exact(hN39.mono (Uk (fun _ _ _ h=>h) (fun x hx=>by simp only[List.mem_append]at hx;rcases hx with h|h<;>first|(simp[h];done)|(simp at h;simp[h];done)))))
    |(rw[if_neg (by assumption),if_pos (by assumption)];exact(hN39.mono (Uk (fun _ _ _ h=>h) (fun x hx=>by simp only[List.mem_append]at hx;rcases hx with h|h<;>first|(simp[h];done)|(simp at h;simp[h];done)))))
    |(rw[if_pos (by assumption)];exact(hN39.mono (Uk (fun _ _ _ h=>h) (fun x hx=>by simp only[List.mem_append]at hx;rcases hx with h|h<;>first|(simp[h];done)|(simp at h;simp[h];done)))))
    |(rw[if_neg (by assumption),if_neg (by assumption)];exact(hN39.mono (Uk (fun _ _ _ h=>h) (fun x hx=>by simp only[List.mem_append]at hx;rcases hx with h|h<;>first|(simp[h];done)|(simp at h;simp[h];done)))))
   exact⟨_,Qd,i+1,on39,an39,bn39,cn39,nn39,kkn39,(A++A39),rfl,(K.sub rfl),M.less (.cons _ (.refl _)),Qd,hgA⟩
  refine Qb 2 K M fun _ K=>?_
  have hgA:Yr (Yz R A) (gC ((ds.length:Nat):Int) ds (i+1)) [.str ov,iZ av,iZ bv,iZ cv,iZ nv,kkv]:=by
   rw[B5 hi16];unfold gS
   first
   |(simp only[if_pos (by assumption:_)];exact hA)
   |(rw[if_neg (by assumption),if_pos (by assumption)];exact hA)
   |(rw[if_pos (by assumption)];exact hA)
   |(rw[if_neg (by assumption),if_neg (by assumption)];exact hA)
  exact⟨_,Qd,i+1,ov,av,bv,cv,nv,kkv,A,rfl,(K.sub rfl),M.less (.cons _ (.refl _)),Qd,hgA⟩
 refine QM ?_;show W _ _ _ _ _ _ _;refine Qb 1 K M fun _ K=>?_;refine Uh (k:=1) K M rfl rfl rfl Ub rfl (Qa rfl (Qa rfl (Qa rfl (Qa rfl (Qa rfl (Qa hA.H8 QL)))))) rfl fun _ M=>?_;refine Qb 0 K M ?_
 have hie:i=ds.length:=by omega
 subst hie;exact⟨qo.of (A:=((c3,0,[.str ov,iZ av,iZ bv,iZ cv,iZ nv,kkv])::(c2,0,[.str ov,iZ av,iZ bv,iZ cv,iZ nv,kkv])::(A++[]))) (hA.mono (Uk (fun _ _ _ h=>h) (fun x h=>by first|(simp[h];done)|(simp at h;simp[h];done)))) (M.kQ (.refl _)),M.qt⟩

theorem R4(hf:Qh st)(hR:X1 R st.h.get){o:List Nat}{a b g n:Int}{l:List Cr}{cs:List AV}(hr:Yr R (.mk o a b g n l) cs){mp lf:Nat}(hRm: ∀c m r,R c m r→c≠mp)(hm:Qu st.h.get mp 0 [iN lf,.bool false])(hl:lf≤9223372036854775807){nm0:List Nat}{or0 YG:Int}(hV:Jg st.h.get [] 3 [[.str nm0,iZ or0,iZ YG]] kv)(hko: ∀c m o n y,kv=.sl c m o n y→ ¬(YH mp lf false).F c){s:Nat}{m1:Au}(hA:Jl (NC (gC (([(nm0,or0,YG)].length:Nat):Int) [(nm0,or0,YG)] [(nm0,or0,YG)].length) (.mk o a b g n l)) 1 m1 s)(hs:s≤lf)(hc:Ja (.mk o a b g n l) 1=true)(hg:Ja (gC (([(nm0,or0,YG)].length:Nat):Int) [(nm0,or0,YG)] [(nm0,or0,YG)].length) 1=true)(hsz:Xx (.mk o a b g n l)≤1900)(hgz:Xx (gC (([(nm0,or0,YG)].length:Nat):Int) [(nm0,or0,YG)] [(nm0,or0,YG)].length)≤50){w:List Nat}(hw0:UE m1=some w)(hwl:w.length≤1000)(hwb: ∀y∈w,y≤64): ∃v st',QV 38 [kv,.agg cs,.ptr mp 0 0] st v st'∧Qu st'.h.get mp 0 [iZ (lf-s:Nat),.bool false]∧YA (fun c=>c=mp) st st'∧ ∃kl k0 A0 Al,v=.ifc 49 kl∧qm st.n st' (A0++Al)∧Acc 0 1 A0 k0 (zC (UK w 0 w.length))∧W3 k0 (UK w 0 w.length)∧Acc 0 3 Al kl [[.str nm0,iZ or0,k0]]:=by
 have hr0:=hr;obtain⟨kc,ls,rfl,hK⟩:=hr.ZG;have hln:=hK.ln;have hbn:=hK.AW;have hkc:=hK.cell;have hkl:=hK.len;have hmF: ∀c,(YH mp lf false).F c→c<st.n:=fun c hc=>(show c=mp from hc)▸hm.lt hf;have B:=Ql.UD (o:=YH mp lf false) hf hm hmF;refine Jv Tryz.func38 Tryz.ntmps38 fun T K=>?_;have M:=B.mem;refine Qb 0 K M fun _ K=>?_;refine JK K M rfl (Qa rfl (Qa rfl (Qa rfl (Qa rfl (Qa rfl (Qa hK.cell QL)))))) Q9 fun c4 _ _ K M=>?_;refine Qb 1 K M fun _ K=>?_;refine QT (l:=[(0,0),(1,0),(2,1),(3,0),(4,0),(5,0),(6,0),(7,0),(8,0),(9,0),(10,0),(11,0),(12,0)]) (by kernel_rfl) ?_;have Mq:=M;have Bq:=B;refine q1 rfl K (Q8 rfl) fun _ K=>?_;obtain⟨v13,st13,ev13,⟨on13,an13,bn13,cn13,nn13,kkn13,A13,rfl,hS13,hN13⟩,q13⟩:=OM (R:=R) (ds:=[(nm0,or0,YG)]) M.fresh (CN ((B.step M).rd hf hV hko));refine qA rfl K (Qf rfl ev13) fun _ K=>?_;replace M:=M.Xs q13 hS13;replace M:=Mem.cast (M':=((c4,0,[.str o,iZ a,iZ b,iZ g,iZ n,kc])::(A13++[]))) M (by first|(simp;done)|(simp;rfl));have Mp:=Mq;have Mq:=M;have Bp:=Bq;have Bq:=B;refine JE rfl K rfl (M.load (k:=0) rfl (QZ Jh rfl)) (Mp.load (k:=0) rfl (QZ Jh rfl)) (KO (by simp[Hu,Hv,A6,YM hkl])) rfl Q9 fun _ K=>?_;obtain⟨v15,st15,ev15,⟨on15,an15,bn15,cn15,nn15,kkn15,A15,rfl,hS15,hN15⟩,q15⟩:=FZ (R:=Yz R A13) M.fresh hN13 (hr0.mono fun _ _ _=>KF);refine qA rfl K (Qf rfl ev15) fun _ K=>?_;replace M:=M.Xs q15 hS15;replace hN15:=hN15.flat;replace M:=Mem.cast (M':=((c4,0,[.str o,iZ a,iZ b,iZ g,iZ n,kc])::(A13++(A15++[])))) M (by first|(simp;done)|(simp;rfl));have Mp:=Mq;have Mq:=M;have Bp:=Bq;have Bq:=B;refine q1 rfl K (Q8 rfl) fun _ K=>q1 rfl K (Q0 QJ rfl rfl (show J8 kv=some 1 from hV.len)) fun _ K=>q1 rfl K (Q8 rfl) fun _ K=>?_;replace B:=B.step M;have B0:=B
 obtain⟨v19,st19,ev19,dp,Fd,rfl,hDd,hNd,hRd,QB⟩:=H7 (k:=1) B.fresh (fun c m r hr=>hr.elim (fun h=>B.ZA hf (hR c m r h) (fun e=>hRm c m r h e)) fun h=>Qu.QI (B.row c m r (by rcases List.mem_append.1 h with h|h<;>simp[h]))) hN15 (fun c m r hr=>hr.elim (hRm c m r) fun h e=>B.djM _ (List.mem_cons_self ..) c m r (by rcases List.mem_append.1 h with h|h<;>simp[h]) e) (show Qu _ mp 0 [iN lf,.bool false]from B.at_ (k:=0) rfl) hl Q9 (Gl hg hc) (by rw[Sn];omega) hA hs
 refine qA rfl K (Qf rfl ev19) fun _ K=>?_;replace B:=B.call (k:=0) (o':=YH mp (lf-s) false) rfl QB hRd (ZO fun c hc=>by rw[show c=mp from hc];exact hRd.lt QB.fresh);replace B:=B0.ES (k:=0) (o:=EJ Fd dp m1) (om':=YH mp (lf-s) false) rfl rfl B hDd.at_ hNd;have M:=B.mem;have Mp:=Mq;have Mq:=M;have Bp:=Bq;have Bq:=B;refine UT 5 K M fun _ K=>?_;refine Jd ?_;show W _ _ _ _ _ _ _;refine Qb 2 K M fun _ K=>?_;refine UJ K rfl (fun h23=>?_) fun h23=>?_
 ·have hb23:=h23
  replace h23: ¬(0=0):=by first|exact of_decide_eq_false h23|exact yF h23|simpa using h23
  exfalso;omega
 have hb23:=h23
 replace h23:(0=0):=by first|exact of_decide_eq_true h23|exact yT h23|simpa using h23
 refine Qb 2 K M fun _ K=>?_;replace B:=B.step M;have hle9:=B.le;obtain⟨v29,st29,ev29,kl,k0,A0,Al,rfl,hSg,hA0,hS0,hAl,q29⟩:=xT B.fresh (B.RE (k:=0) rfl) hA.canon hA.tr hw0 hwl hwb (B.rd hf hV hko);refine p1 K (Qf rfl ev29) fun _ K=>?_;replace M:=B.mem.Xs q29 hSg;replace M:=Mem.cast (M':=((c4,0,[.str o,iZ a,iZ b,iZ g,iZ n,kc])::(A13++(A15++(A0++(Al++[])))))) M Qx;refine Qb 9 K M fun _ K=>?_;refine p1 K (E0 rfl (VC _)) fun _ K=>?_;refine Qb 1 K M ?_;replace B:=B.step M;exact⟨B.at_ (k:=1) rfl,B.U7,kl,k0,A0,Al,rfl,⟨fun c m l h=>hSg.row c m l h,fun c m l h=>Nat.le_trans hle9 (hSg.own c m l h),hSg.nodup⟩,hA0,hS0,hAl⟩

theorem R3(hf:Qh st)(hR:X1 R st.h.get){o:List Nat}{a b g n:Int}{l:List Cr}{cs:List AV}(hr:Yr R (.mk o a b g n l) cs){mp lf:Nat}(hRm: ∀c m r,R c m r→c≠mp)(hm:Qu st.h.get mp 0 [iN lf,.bool false])(hl:lf≤9223372036854775807){nm0:List Nat}{or0 YG:Int}{nm1:List Nat}{or1 at1:Int}(hV:Jg st.h.get [] 3 [[.str nm0,iZ or0,iZ YG],[.str nm1,iZ or1,iZ at1]] kv)(hko: ∀c m o n y,kv=.sl c m o n y→ ¬(YH mp lf false).F c){s:Nat}{m1:Au}(hA:Jl (NC (gC (([(nm0,or0,YG),(nm1,or1,at1)].length:Nat):Int) [(nm0,or0,YG),(nm1,or1,at1)] [(nm0,or0,YG),(nm1,or1,at1)].length) (.mk o a b g n l)) 2 m1 s)(hs:s≤lf)(hc:Ja (.mk o a b g n l) 2=true)(hg:Ja (gC (([(nm0,or0,YG),(nm1,or1,at1)].length:Nat):Int) [(nm0,or0,YG),(nm1,or1,at1)] [(nm0,or0,YG),(nm1,or1,at1)].length) 2=true)(hsz:Xx (.mk o a b g n l)≤1900)(hgz:Xx (gC (([(nm0,or0,YG),(nm1,or1,at1)].length:Nat):Int) [(nm0,or0,YG),(nm1,or1,at1)] [(nm0,or0,YG),(nm1,or1,at1)].length)≤50){w:List Nat}(hw0:UE m1=some w)(hwl:w.length≤1000)(hwb: ∀y∈w,y≤64): ∃v st',QV 38 [kv,.agg cs,.ptr mp 0 0] st v st'∧Qu st'.h.get mp 0 [iZ (lf-s:Nat),.bool false]∧YA (fun c=>c=mp) st st'∧ ∃kl k0 k1 A0 A1 Al,v=.ifc 49 kl∧qm st.n st' (A0++A1++Al)∧Acc 0 1 A0 k0 (zC (UK w 0 w.length))∧W3 k0 (UK w 0 w.length)∧Acc 0 1 A1 k1 (zC (UK w 1 w.length))∧W3 k1 (UK w 1 w.length)∧Acc 0 3 Al kl [[.str nm0,iZ or0,k0],[.str nm1,iZ or1,k1]]:=by
 have hr0:=hr;obtain⟨kc,ls,rfl,hK⟩:=hr.ZG;have hln:=hK.ln;have hbn:=hK.AW;have hkc:=hK.cell;have hkl:=hK.len;have hmF: ∀c,(YH mp lf false).F c→c<st.n:=fun c hc=>(show c=mp from hc)▸hm.lt hf;have B:=Ql.UD (o:=YH mp lf false) hf hm hmF;refine Jv Tryz.func38 Tryz.ntmps38 fun T K=>?_;have M:=B.mem;refine Qb 0 K M fun _ K=>?_;refine JK K M rfl (Qa rfl (Qa rfl (Qa rfl (Qa rfl (Qa rfl (Qa hK.cell QL)))))) Q9 fun c4 _ _ K M=>?_;refine Qb 1 K M fun _ K=>?_;refine QT (l:=[(0,0),(1,0),(2,1),(3,0),(4,0),(5,0),(6,0),(7,0),(8,0),(9,0),(10,0),(11,0),(12,0)]) (by kernel_rfl) ?_;have Mq:=M;have Bq:=B;refine q1 rfl K (Q8 rfl) fun _ K=>?_;obtain⟨v13,st13,ev13,⟨on13,an13,bn13,cn13,nn13,kkn13,A13,rfl,hS13,hN13⟩,q13⟩:=OM (R:=R) (ds:=[(nm0,or0,YG),(nm1,or1,at1)]) M.fresh (CN ((B.step M).rd hf hV hko));refine qA rfl K (Qf rfl ev13) fun _ K=>?_;replace M:=M.Xs q13 hS13;replace M:=Mem.cast (M':=((c4,0,[.str o,iZ a,iZ b,iZ g,iZ n,kc])::(A13++[]))) M (by first|(simp;done)|(simp;rfl));have Mp:=Mq;have Mq:=M;have Bp:=Bq;have Bq:=B;refine JE rfl K rfl (M.load (k:=0) rfl (QZ Jh rfl)) (Mp.load (k:=0) rfl (QZ Jh rfl)) (KO (by simp[Hu,Hv,A6,YM hkl])) rfl Q9 fun _ K=>?_;obtain⟨v15,st15,ev15,⟨on15,an15,bn15,cn15,nn15,kkn15,A15,rfl,hS15,hN15⟩,q15⟩:=FZ (R:=Yz R A13) M.fresh hN13 (hr0.mono fun _ _ _=>KF);refine qA rfl K (Qf rfl ev15) fun _ K=>?_;replace M:=M.Xs q15 hS15;replace hN15:=hN15.flat;replace M:=Mem.cast (M':=((c4,0,[.str o,iZ a,iZ b,iZ g,iZ n,kc])::(A13++(A15++[])))) M (by first|(simp;done)|(simp;rfl));have Mp:=Mq;have Mq:=M;have Bp:=Bq;have Bq:=B;refine q1 rfl K (Q8 rfl) fun _ K=>q1 rfl K (Q0 QJ rfl rfl (show J8 kv=some 2 from hV.len)) fun _ K=>q1 rfl K (Q8 rfl) fun _ K=>?_;replace B:=B.step M;have B0:=B
 obtain⟨v19,st19,ev19,dp,Fd,rfl,hDd,hNd,hRd,QB⟩:=H7 (k:=2) B.fresh (fun c m r hr=>hr.elim (fun h=>B.ZA hf (hR c m r h) (fun e=>hRm c m r h e)) fun h=>Qu.QI (B.row c m r (by rcases List.mem_append.1 h with h|h<;>simp[h]))) hN15 (fun c m r hr=>hr.elim (hRm c m r) fun h e=>B.djM _ (List.mem_cons_self ..) c m r (by rcases List.mem_append.1 h with h|h<;>simp[h]) e) (show Qu _ mp 0 [iN lf,.bool false]from B.at_ (k:=0) rfl) hl Q9 (Gl hg hc) (by rw[Sn];omega) hA hs
 refine qA rfl K (Qf rfl ev19) fun _ K=>?_;replace B:=B.call (k:=0) (o':=YH mp (lf-s) false) rfl QB hRd (ZO fun c hc=>by rw[show c=mp from hc];exact hRd.lt QB.fresh);replace B:=B0.ES (k:=0) (o:=EJ Fd dp m1) (om':=YH mp (lf-s) false) rfl rfl B hDd.at_ hNd;have M:=B.mem;have Mp:=Mq;have Mq:=M;have Bp:=Bq;have Bq:=B;refine UT 5 K M fun _ K=>?_;refine Jd ?_;show W _ _ _ _ _ _ _;refine Qb 2 K M fun _ K=>?_;refine UJ K rfl (fun h23=>?_) fun h23=>?_
 ·have hb23:=h23
  replace h23: ¬(0=0):=by first|exact of_decide_eq_false h23|exact yF h23|simpa using h23
  exfalso;omega
 have hb23:=h23
 replace h23:(0=0):=by first|exact of_decide_eq_true h23|exact yT h23|simpa using h23
 refine Qb 2 K M fun _ K=>?_;replace B:=B.step M;have hle9:=B.le;obtain⟨v29,st29,ev29,kl,k0,k1,A0,A1,Al,rfl,hSg,hA0,hS0,hA1,hS1,hAl,q29⟩:=xS B.fresh (B.RE (k:=0) rfl) hA.canon hA.tr hw0 hwl hwb (B.rd hf hV hko);refine p1 K (Qf rfl ev29) fun _ K=>?_;replace M:=B.mem.Xs q29 hSg;replace M:=Mem.cast (M':=((c4,0,[.str o,iZ a,iZ b,iZ g,iZ n,kc])::(A13++(A15++(A0++(A1++(Al++[]))))))) M Qx;refine Qb 9 K M fun _ K=>?_;refine p1 K (E0 rfl (VC _)) fun _ K=>?_;refine Qb 1 K M ?_;replace B:=B.step M;exact⟨B.at_ (k:=1) rfl,B.U7,kl,k0,k1,A0,A1,Al,rfl,⟨fun c m l h=>hSg.row c m l h,fun c m l h=>Nat.le_trans hle9 (hSg.own c m l h),hSg.nodup⟩,hA0,hS0,hA1,hS1,hAl⟩
end
end Go.Proofs.YtildagdnomiahaaGreatDoor
