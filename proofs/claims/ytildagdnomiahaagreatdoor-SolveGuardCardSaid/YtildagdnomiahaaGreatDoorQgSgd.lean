/-
  What any variables are: the program's, the document's.
-/
import Derived.Test.YtildagdnomiahaaGreatDoorQgKnF
namespace Go.Proofs.YtildagdnomiahaaGreatDoor
open Go Go.RowKit
set_option maxHeartbeats 8000000
set_option linter.unusedVariables false
set_option linter.unusedSimpArgs false
set_option linter.unnecessarySimpa false
set_option linter.unusedSectionVars false
set_option maxRecDepth 100000
variable {R:Vl} {st:St} {x1:Cr} {xa1 xb1 xc1 xn1:Int} {xk1:AV} {xo1:List Nat}

noncomputable def Iq:Env:=⟨fun _=>false,BY CA,HJ [(16,Iv)],Wq⟩
theorem yw:ER Tryz.prog Iq:=⟨fun f q h=>Lv (f,q) (Hh h),fun f sm h=>by
 have h:HJ [(16,Iv)] f=some sm:=h;have h:=NM h;rcases List.mem_cons.1 h with h|h
 ·injection h with e1 e2;subst e1 e2;exact GQ (fun _=>rfl) (yx jX) (fun w0 w h hb=>Wq.below h hb) mixed Ga
 cases h⟩
theorem DE(st:St):Ev Tryz.prog Iq 16 [] st (.bool true) st:=⟨0,1,rfl⟩
theorem Uy.flat{A B:VL}{k:Cr}{cs:List AV}(r:Uy (Un (Un R A) B) k cs):Uy (Un R (B++A)) k cs:=r.mono fun c m l h=>by
 rcases h with(h|h)|h
 ·exact .inl h
 ·exact .inr (List.mem_append_right _ h)
 ·exact .inr (List.mem_append_left _ h)
theorem u9{P:Program}{G:Env}{K:List (Nat×AV)}{t yt:TypeId}{x y:Operand}{a:List Nat}(hx:QD G K x=some (.str a))(hy:QD G K y=some (.str a)):Uf P G K (.binOp .neq t x y yt) st (.bool false) st:=by have:=Kl (P:=P) (t:=t) (yt:=yt) (st:=st) hx hy;simpa using this
theorem AS{P:Program}{G:Env}{K:List (Nat×AV)}{t yt:TypeId}{x y:Operand}{k:IntKind}{a:Int}(hx:QD G K x=some (.int k a))(hy:QD G K y=some (.int k a)):Uf P G K (.binOp .neq t x y yt) st (.bool false) st:=by have:=D1 (P:=P) (t:=t) (yt:=yt) (st:=st) hx hy;simpa using this
def eo(w:Int)(x:Cr):Cr:=.mk [101,120] w 0 0 0 [x]
def Tq(x y:Cr):Cr:=.mk [97,110,100] 0 0 0 0 [x,y]
def wj(w:Int):Cr:=.mk [110,117,109] w 0 0 0 []
def vJ(a b:Int):Cr:=.mk [115,117,98] a b 0 0 []
def vK(a:Int):Cr:=.mk [115,105,110,103] a 0 0 0 []
def gS(w:Int)(c:Cr)(i:Int)(o:Int):Cr:=if o=0 then Tq c (eo w (Tq (wj w) (vJ i w)))else if o=1 then Tq c (vK i)else c
def gC(w:Int)(ds:List yP):Nat→Cr
 |0=>.mk [116,114,117,101] 0 0 0 0 []
 |i+1=>gS w (gC w ds i) ((i:Nat):Int) (((ds[i]?).getD ([],0,0)).2.1)
theorem Ew{w:Int}{ds:List yP}{i:Nat}{d:yP}(h:ds[i]? =some d):gC w ds (i+1)=gS w (gC w ds i) ((i:Nat):Int) d.2.1:=by rw[gC,h];rfl

theorem Gd(hf:Qg st)(h1:Uy R x1 [.str xo1,iZ xa1,iZ xb1,iZ xc1,iZ xn1,xk1]){xo2:List Nat}{xa2 xb2 xc2 xn2:Int}{xk2:AV}{x2:Cr}(h2:Uy R x2 [.str xo2,iZ xa2,iZ xb2,iZ xc2,iZ xn2,xk2]): ∃v st',Ev Tryz.prog Iq 32 [.agg [.str xo1,iZ xa1,iZ xb1,iZ xc1,iZ xn1,xk1],.agg [.str xo2,iZ xa2,iZ xb2,iZ xc2,iZ xn2,xk2]] st v st'∧FC R st st' (Tq x1 x2) v∧Qt st st':=by
 refine Jq Tryz.func32 Tryz.ntmps32 fun T K=>?_;have M:=Mem.start hf;refine Qb 0 K M fun _ K=>?_;refine J3 K M rfl (Qa rfl (Qa rfl (Qa rfl (Qa rfl (Qa rfl (Qa h1.Ze Q9)))))) Q8 fun c2 _ _ K M=>?_;refine J3 K M rfl (Qa rfl (Qa rfl (Qa rfl (Qa rfl (Qa rfl (Qa h2.Ze Q9)))))) Q8 fun c3 _ _ K M=>?_;refine au 3 K M ?_;intro c4 _ _ K _ M;refine Vn K M UN U9 rfl rfl (Qa rfl (Qa rfl (Qa rfl (Qa rfl (Qa rfl (Qa h1.Ze (Qa rfl (Qa rfl (Qa rfl (Qa rfl (Qa rfl (Qa h2.Ze Q9)))))))))))) rfl rfl fun c7 _ _ K M=>?_;refine au 2 K M ?_;intro _ _ K _ M;refine Qb 0 K M ?_;exact⟨FC.of (A:=((c7,0,[.str xo1,iZ xa1,iZ xb1,iZ xc1,iZ xn1,xk1,.str xo2,iZ xa2,iZ xb2,iZ xc2,iZ xn2,xk2])::(c4,0,[.str [97,110,100],iZ 0,iZ 0,iZ 0,iZ 0,(.sl c7 0 0 2 6)])::(c3,0,[.str xo2,iZ xa2,iZ xb2,iZ xc2,iZ xn2,xk2])::(c2,0,[.str xo1,iZ xa1,iZ xb1,iZ xc1,iZ xn1,xk1])::[])) (M3 Qx (Uy.mono (fun _ _ _ h=>.inl h) h1) (Uy.mono (fun _ _ _ h=>.inl h) h2)) (M.vq (.refl _)),M.qt⟩

theorem KH(hf:Qg st)(h1:Uy R x1 [.str xo1,iZ xa1,iZ xb1,iZ xc1,iZ xn1,xk1]){xo2:List Nat}{xa2 xb2 xc2 xn2:Int}{xk2:AV}{x2:Cr}(h2:Uy R x2 [.str xo2,iZ xa2,iZ xb2,iZ xc2,iZ xn2,xk2]): ∃v st',Ev Tryz.prog Iq 33 [.agg [.str xo1,iZ xa1,iZ xb1,iZ xc1,iZ xn1,xk1],.agg [.str xo2,iZ xa2,iZ xb2,iZ xc2,iZ xn2,xk2]] st v st'∧FC R st st' (Tq x1 x2) v∧Qt st st':=by
 refine Jq Tryz.func33 Tryz.ntmps33 fun T K=>?_;have M:=Mem.start hf;refine Qb 0 K M fun _ K=>?_;refine J3 K M rfl (Qa rfl (Qa rfl (Qa rfl (Qa rfl (Qa rfl (Qa h1.Ze Q9)))))) Q8 fun c2 _ _ K M=>?_;refine J3 K M rfl (Qa rfl (Qa rfl (Qa rfl (Qa rfl (Qa rfl (Qa h2.Ze Q9)))))) Q8 fun c3 _ _ K M=>?_;refine au 3 K M ?_;intro c4 _ _ K _ M;refine Vn K M UN U9 rfl rfl (Qa rfl (Qa rfl (Qa rfl (Qa rfl (Qa rfl (Qa h1.Ze (Qa rfl (Qa rfl (Qa rfl (Qa rfl (Qa rfl (Qa h2.Ze Q9)))))))))))) rfl rfl fun c7 _ _ K M=>?_;refine au 2 K M ?_;intro _ _ K _ M;refine Qb 0 K M ?_;exact⟨FC.of (A:=((c7,0,[.str xo1,iZ xa1,iZ xb1,iZ xc1,iZ xn1,xk1,.str xo2,iZ xa2,iZ xb2,iZ xc2,iZ xn2,xk2])::(c4,0,[.str [97,110,100],iZ 0,iZ 0,iZ 0,iZ 0,(.sl c7 0 0 2 6)])::(c3,0,[.str xo2,iZ xa2,iZ xb2,iZ xc2,iZ xn2,xk2])::(c2,0,[.str xo1,iZ xa1,iZ xb1,iZ xc1,iZ xn1,xk1])::[])) (M3 Qx (Uy.mono (fun _ _ _ h=>.inl h) h1) (Uy.mono (fun _ _ _ h=>.inl h) h2)) (M.vq (.refl _)),M.qt⟩

theorem yo(hf:Qg st)(v0:Int)(h1:Uy R x1 [.str xo1,iZ xa1,iZ xb1,iZ xc1,iZ xn1,xk1]): ∃v st',Ev Tryz.prog Iq 60 [iZ v0,.agg [.str xo1,iZ xa1,iZ xb1,iZ xc1,iZ xn1,xk1]] st v st'∧FC R st st' (eo v0 x1) v∧Qt st st':=by
 refine Jq Tryz.func60 Tryz.ntmps60 fun T K=>?_;have M:=Mem.start hf;refine Qb 0 K M fun _ K=>?_;refine J3 K M rfl (Qa rfl (Qa rfl (Qa rfl (Qa rfl (Qa rfl (Qa h1.Ze Q9)))))) Q8 fun c3 _ _ K M=>?_;refine au 3 K M ?_;intro c4 _ _ K _ M;refine Vn K M UN U9 rfl rfl (Qa rfl (Qa rfl (Qa rfl (Qa rfl (Qa rfl (Qa h1.Ze Q9)))))) rfl rfl fun c7 _ _ K M=>?_;refine au 2 K M ?_;intro _ _ K _ M;refine Qb 0 K M ?_;exact⟨FC.of (A:=((c7,0,[.str xo1,iZ xa1,iZ xb1,iZ xc1,iZ xn1,xk1])::(c4,0,[.str [101,120],iZ v0,iZ 0,iZ 0,iZ 0,(.sl c7 0 0 1 6)])::(c3,0,[.str xo1,iZ xa1,iZ xb1,iZ xc1,iZ xn1,xk1])::[])) (M4 Qx (Uy.mono (fun _ _ _ h=>.inl h) h1)) (M.vq (.refl _)),M.qt⟩

theorem SF(hf:Qg st)(i w:Int): ∃v st',Ev Tryz.prog Iq 34 [iZ i,iZ w] st v st'∧FC R st st' (eo w (Tq (wj w) (vJ i w))) v∧Qt st st':=by
 refine Jq Tryz.func34 Tryz.ntmps34 fun T K=>?_;have M:=Mem.start hf;refine au 7 K M ?_;intro c4 _ _ K _ M;obtain⟨v11,st11,ev11,⟨on11,an11,bn11,cn11,nn11,kkn11,A11,rfl,hS11,hN11⟩,q11⟩:=KH (R:=R) M.fresh WL WL;refine p1 K (Qf rfl ev11) fun _ K=>?_;replace M:=M.Z5 q11 hS11;simp only[Vk]at M;obtain⟨v12,st12,ev12,⟨on12,an12,bn12,cn12,nn12,kkn12,A12,rfl,hS12,hN12⟩,q12⟩:=yo (R:=(Un R A11)) M.fresh w hN11;refine p1 K (Qf rfl ev12) fun _ K=>?_;replace M:=M.Z5 q12 hS12;replace hN12:=hN12.flat;simp only[Vk]at M;refine J9 (k:=0) K M rfl rfl rfl Jm rfl (Qa rfl (Qa rfl (Qa rfl (Qa rfl (Qa rfl (Qa hN12.Ze Q9)))))) rfl fun _ M=>?_;refine Qb 0 K M ?_
 exact⟨FC.of (A:=((c4,0,[.str on12,iZ an12,iZ bn12,iZ cn12,iZ nn12,kkn12])::(A11++(A12++[])))) (hN12.mono (QH (fun _ _ _ h=>h) (fun x hx=>by simp only[List.mem_append]at hx;rcases hx with h|h<;>first|(simp[h];done)|(simp at h;simp[h];done)))) (M.vq (.refl _)),M.qt⟩

theorem SH(hf:Qg st){ds:List yP}{kd:AV}{ld:List (List AV)}(hD:R9 st.h.get ds kd ld): ∃v st',Ev Tryz.prog Iq 14 [kd] st v st'∧FC R st st' (gC ((ds.length:Nat):Int) ds ds.length) v∧Qt st st':=by
 have hD:ZQ st.h.get 3 T0 ds kd ld:=hD;have hln:=hD.ln
 have hbn:(ds.length:Int)≤9223372036854775807:=by have:=hD.r.EA;rw[hD.ln]at this;exact this
 refine Jq Tryz.func14 Tryz.ntmps14 fun T K=>?_;have M:=Mem.start hf;refine au 5 K M ?_;intro c2 c3 _ _ K _ M;refine p1 K (Q4 QS rfl rfl (hD.r.len.trans (congrArg some hD.ln))) fun _ K=>?_;refine Qb 2 K M fun _ K=>?_;refine p1 K (Q4 QS rfl rfl (hD.r.len.trans (congrArg some hD.ln))) fun _ K=>?_;refine Qb 1 K M fun _ K=>?_;refine QV (fun mm1 T st9=> ∃(i:Nat) (ov:List Nat) (av bv cv nv:Int) (kkv:AV) (A:VL),mm1=ds.length-i∧QE [(2,.ptr c2 0 0),(3,.ptr c3 0 0),(4,iZ (ds.length:Nat)),(11,kd),(12,iZ (ds.length:Nat)),(13,iN i)] T∧Mem st.h.get st.n [] st9 ((c3,0,[.str ov,iZ av,iZ bv,iZ cv,iZ nv,kkv])::(c2,0,[.str [],iZ 0,iZ 0,iZ 0,iZ 0,.nils])::(A++[]))∧i≤ds.length∧Uy (Un R A) (gC ((ds.length:Nat):Int) ds i) [.str ov,iZ av,iZ bv,iZ cv,iZ nv,kkv]) (fun mm1 T st9 hI=>?_) _ _ _ ⟨0,[116,114,117,101],0,0,0,0,.nils,[],rfl,(K.sub rfl),M.less (.refl _),(Nat.zero_le _),WL⟩;obtain⟨i,ov,av,bv,cv,nv,kkv,A,rfl,K,M,hil,hA⟩:=hI;refine Qb 1 K M fun _ K=>?_;refine Uk K rfl (fun h14=>?_) fun h14=>?_
 ·refine Qb 1 K M fun _ K=>?_;obtain⟨⟨dn16,do16,da16⟩,hi16⟩: ∃k,ds[i]? =some k:=⟨_,List.getElem?_eq_getElem Qe⟩;obtain⟨_,hc16,rfl⟩:=hD.at_ _ _ hi16;refine vt (hD.r.mem M Qx) hc16 K Z4 H4 rfl rfl fun _ _ _ _ K=>?_;refine au 7 K M ?_;intro c6 _ _ K _ M;refine Uk K rfl (fun h20=>?_) fun h20=>?_
  ·refine Qb 5 K M fun _ K=>?_;obtain⟨v27,st27,ev27,⟨on27,an27,bn27,cn27,nn27,kkn27,A27,rfl,hS27,hN27⟩,q27⟩:=Gd (R:=R) M.fresh WL WL;refine p1 K (Qf rfl ev27) fun _ K=>?_;replace M:=M.Z5 q27 hS27;simp only[Vk]at M;refine au 1 K M ?_;intro c7 _ _ K _ M;refine J9 (k:=0) K M rfl rfl rfl Jm rfl (Qa rfl (Qa rfl (Qa rfl (Qa rfl (Qa rfl (Qa hN27.Ze Q9)))))) rfl fun _ M=>?_;refine Qb 3 K M fun _ K=>?_;refine Vn K M UN U9 rfl rfl (Qa rfl (Qa rfl (Qa rfl (Qa rfl (Qa rfl (Qa hN27.Ze Q9)))))) rfl rfl fun c31 _ _ K M=>?_;refine Qb 1 K M fun _ K=>?_;replace M:=Mem.cast (M':=(((c7,0,[.str on27,iZ an27,iZ bn27,iZ cn27,iZ nn27,kkn27])::(c6,0,[.str dn16,iZ do16,iZ da16])::(c3,0,[.str ov,iZ av,iZ bv,iZ cv,iZ nv,kkv])::(c2,0,[.str [],iZ 0,iZ 0,iZ 0,iZ 0,.nils])::(A++(A27++[])))++([(c31,0,[.str on27,iZ an27,iZ bn27,iZ cn27,iZ nn27,kkn27])]++[]))) (Mem.perm M (List.perm_append_comm (α:=Nat×Nat×List AV) (l₁:=[(c31,0,[.str on27,iZ an27,iZ bn27,iZ cn27,iZ nn27,kkn27])]) (l₂:=((c7,0,[.str on27,iZ an27,iZ bn27,iZ cn27,iZ nn27,kkn27])::(c6,0,[.str dn16,iZ do16,iZ da16])::(c3,0,[.str ov,iZ av,iZ bv,iZ cv,iZ nv,kkv])::(c2,0,[.str [],iZ 0,iZ 0,iZ 0,iZ 0,.nils])::(A++(A27++[])))))) Zg;simp only[Vk]at M;obtain⟨v33,st33,ev33,⟨on33,an33,bn33,cn33,nn33,kkn33,A33,rfl,hS33,hN33⟩,q33⟩:=Gd (R:=(Un R (A++([(c31,0,[.str on27,iZ an27,iZ bn27,iZ cn27,iZ nn27,kkn27])]++A27)))) M.fresh (hA.mono (QH (fun _ _ _ h=>h) (fun x h=>by first|(simp[h];done)|(simp at h;simp[h];done)))) (M4 (x:=c31) Qx (hN27.mono (QH (fun _ _ _ h=>h) (fun x h=>by first|(simp[h];done)|(simp at h;simp[h];done)))));refine p1 K (Qf rfl ev33) fun _ K=>?_;replace M:=M.Z5 q33 hS33;replace hN33:=hN33.flat;simp only[Vk]at M;refine J9 (k:=2) K M rfl rfl rfl Jm rfl (Qa rfl (Qa rfl (Qa rfl (Qa rfl (Qa rfl (Qa hN33.Ze Q9)))))) rfl fun _ M=>?_;refine Qb 2 K M fun _ K=>?_;replace M:=Mem.cast (M':=((c7,0,[.str on27,iZ an27,iZ bn27,iZ cn27,iZ nn27,kkn27])::(c6,0,[.str dn16,iZ do16,iZ da16])::(c3,0,[.str on33,iZ an33,iZ bn33,iZ cn33,iZ nn33,kkn33])::(c2,0,[.str [],iZ 0,iZ 0,iZ 0,iZ 0,.nils])::((A++(A27++([(c31,0,[.str on27,iZ an27,iZ bn27,iZ cn27,iZ nn27,kkn27])]++A33)))++[]))) M Qx
   have hgA:Uy (Un R (A++(A27++([(c31,0,[.str on27,iZ an27,iZ bn27,iZ cn27,iZ nn27,kkn27])]++A33)))) (gC ((ds.length:Nat):Int) ds (i+1)) [.str on33,iZ an33,iZ bn33,iZ cn33,iZ nn33,kkn33]:=by
    rw[Ew hi16];unfold gS
    first
    |(simp only[if_pos (by assumption:_)];exact(hN33.mono (QH (fun _ _ _ h=>h) (fun x hx=>by simp only[List.mem_append]at hx;rcases hx with h|h|h|h<;>first|(simp[h];done)|(simp at h;simp[h];done)))))
    |(rw[if_neg (by assumption),if_pos (by assumption)];exact(hN33.mono (QH (fun _ _ _ h=>h) (fun x hx=>by simp only[List.mem_append]at hx;rcases hx with h|h|h|h<;>first|(simp[h];done)|(simp at h;simp[h];done)))))
    |(rw[if_pos (by assumption)];exact(hN33.mono (QH (fun _ _ _ h=>h) (fun x hx=>by simp only[List.mem_append]at hx;rcases hx with h|h|h|h<;>first|(simp[h];done)|(simp at h;simp[h];done)))))
    |(rw[if_neg (by assumption),if_neg (by assumption)];exact(hN33.mono (QH (fun _ _ _ h=>h) (fun x hx=>by simp only[List.mem_append]at hx;rcases hx with h|h|h|h<;>first|(simp[h];done)|(simp at h;simp[h];done)))))
   exact⟨_,Qe,i+1,on33,an33,bn33,cn33,nn33,kkn33,(A++(A27++([(c31,0,[.str on27,iZ an27,iZ bn27,iZ cn27,iZ nn27,kkn27])]++A33))),rfl,(K.sub rfl),M.less (.cons _ (.cons _ (.refl _))),Qe,hgA⟩
  refine Qb 2 K M fun _ K=>?_;refine Uk K rfl (fun h34=>?_) fun h34=>?_
  ·refine Qb 3 K M fun _ K=>?_;obtain⟨v39,st39,ev39,⟨on39,an39,bn39,cn39,nn39,kkn39,A39,rfl,hS39,hN39⟩,q39⟩:=Gd (R:=(Un R A)) M.fresh hA WL;refine p1 K (Qf rfl ev39) fun _ K=>?_;replace M:=M.Z5 q39 hS39;replace hN39:=hN39.flat;simp only[Vk]at M;refine J9 (k:=1) K M rfl rfl rfl Jm rfl (Qa rfl (Qa rfl (Qa rfl (Qa rfl (Qa rfl (Qa hN39.Ze Q9)))))) rfl fun _ M=>?_;refine Qb 2 K M fun _ K=>?_;replace M:=Mem.cast (M':=((c6,0,[.str dn16,iZ do16,iZ da16])::(c3,0,[.str on39,iZ an39,iZ bn39,iZ cn39,iZ nn39,kkn39])::(c2,0,[.str [],iZ 0,iZ 0,iZ 0,iZ 0,.nils])::((A++A39)++[]))) M Qx
   have hgA:Uy (Un R (A++A39)) (gC ((ds.length:Nat):Int) ds (i+1)) [.str on39,iZ an39,iZ bn39,iZ cn39,iZ nn39,kkn39]:=by
    rw[Ew hi16];unfold gS
    first
    |(simp only[if_pos (by assumption:_)];exact(hN39.mono (QH (fun _ _ _ h=>h) (fun x hx=>by simp only[List.mem_append]at hx;rcases hx with h|h<;>first|(simp[h];done)|(simp at h;simp[h];done)))))
    |(rw[if_neg (by assumption),if_pos (by assumption)];exact(hN39.mono (QH (fun _ _ _ h=>h) (fun x hx=>by simp only[List.mem_append]at hx;rcases hx with h|h<;>first|(simp[h];done)|(simp at h;simp[h];done)))))
    |(rw[if_pos (by assumption)];exact(hN39.mono (QH (fun _ _ _ h=>h) (fun x hx=>by simp only[List.mem_append]at hx;rcases hx with h|h<;>first|(simp[h];done)|(simp at h;simp[h];done)))))
    |(rw[if_neg (by assumption),if_neg (by assumption)];exact(hN39.mono (QH (fun _ _ _ h=>h) (fun x hx=>by simp only[List.mem_append]at hx;rcases hx with h|h<;>first|(simp[h];done)|(simp at h;simp[h];done)))))
   exact⟨_,Qe,i+1,on39,an39,bn39,cn39,nn39,kkn39,(A++A39),rfl,(K.sub rfl),M.less (.cons _ (.refl _)),Qe,hgA⟩
  refine Qb 2 K M fun _ K=>?_
  have hgA:Uy (Un R A) (gC ((ds.length:Nat):Int) ds (i+1)) [.str ov,iZ av,iZ bv,iZ cv,iZ nv,kkv]:=by
   rw[Ew hi16];unfold gS
   first
   |(simp only[if_pos (by assumption:_)];exact hA)
   |(rw[if_neg (by assumption),if_pos (by assumption)];exact hA)
   |(rw[if_pos (by assumption)];exact hA)
   |(rw[if_neg (by assumption),if_neg (by assumption)];exact hA)
  exact⟨_,Qe,i+1,ov,av,bv,cv,nv,kkv,A,rfl,(K.sub rfl),M.less (.cons _ (.refl _)),Qe,hgA⟩
 refine QO ?_;show W _ _ _ _ _ _ _;refine Qb 1 K M fun _ K=>?_;refine J9 (k:=1) K M rfl rfl rfl Jm rfl (Qa rfl (Qa rfl (Qa rfl (Qa rfl (Qa rfl (Qa hA.Ze Q9)))))) rfl fun _ M=>?_;refine Qb 0 K M ?_
 have hie:i=ds.length:=by omega
 subst hie;exact⟨FC.of (A:=((c3,0,[.str ov,iZ av,iZ bv,iZ cv,iZ nv,kkv])::(c2,0,[.str ov,iZ av,iZ bv,iZ cv,iZ nv,kkv])::(A++[]))) (hA.mono (QH (fun _ _ _ h=>h) (fun x h=>by first|(simp[h];done)|(simp at h;simp[h];done)))) (M.vq (.refl _)),M.qt⟩

theorem DR(hf:Qg st){ds:List yP}{kd:AV}{ld:List (List AV)}(hD:R9 st.h.get ds kd ld): ∃v st',Ev Tryz.prog Iq 15 [kd] st v st'∧FC R st st' (gC ((ds.length:Nat):Int) ds ds.length) v∧Qt st st':=by
 have hD:ZQ st.h.get 3 T0 ds kd ld:=hD;have hln:=hD.ln
 have hbn:(ds.length:Int)≤9223372036854775807:=by have:=hD.r.EA;rw[hD.ln]at this;exact this
 refine Jq Tryz.func15 Tryz.ntmps15 fun T K=>?_;have M:=Mem.start hf;refine au 5 K M ?_;intro c2 c3 _ _ K _ M;refine QV (fun mm1 T st9=> ∃(i:Nat) (ov:List Nat) (av bv cv nv:Int) (kkv:AV) (A:VL),mm1=ds.length-i∧QE [(0,kd),(2,.ptr c2 0 0),(3,.ptr c3 0 0),(4,iN i)] T∧Mem st.h.get st.n [] st9 ((c3,0,[.str ov,iZ av,iZ bv,iZ cv,iZ nv,kkv])::(c2,0,[.str [],iZ 0,iZ 0,iZ 0,iZ 0,.nils])::(A++[]))∧i≤ds.length∧Uy (Un R A) (gC ((ds.length:Nat):Int) ds i) [.str ov,iZ av,iZ bv,iZ cv,iZ nv,kkv]) (fun mm1 T st9 hI=>?_) _ _ _ ⟨0,[116,114,117,101],0,0,0,0,.nils,[],rfl,(K.sub rfl),M.less (.refl _),(Nat.zero_le _),WL⟩;obtain⟨i,ov,av,bv,cv,nv,kkv,A,rfl,K,M,hil,hA⟩:=hI;refine Qb 2 K M fun _ K=>?_;refine p1 K (Q4 QS rfl rfl (hD.r.len.trans (congrArg some hD.ln))) fun _ K=>?_;refine Qb 1 K M fun _ K=>?_;refine Uk K rfl (fun h9=>?_) fun h9=>?_
 ·refine Qb 2 K M fun _ K=>?_;obtain⟨⟨dn14,do14,da14⟩,hi14⟩: ∃k,ds[i]? =some k:=⟨_,List.getElem?_eq_getElem Qe⟩;obtain⟨_,hc14,rfl⟩:=hD.at_ _ _ hi14;obtain⟨x14,m14,f14,q14,_,la14,lo14,lp14⟩:=(hD.r.mem M Qx).load (i:=i) (cs:=_) hc14;refine p1 K (Qs (j:=i) Z4 (congrArg some q14) rfl (by rw[hD.ln];omega)) fun _ K=>?_;refine Qb 1 K M fun _ K=>?_;refine p1 K (Qh rfl (lo14 _ 1 _ Qq rfl)) fun _ K=>?_;refine Qb 2 K M fun _ K=>?_;refine Uk K rfl (fun h17=>?_) fun h17=>?_
  ·refine QQ (l:=[(1,0),(2,0),(3,0),(4,0),(0,1),(5,0),(6,0)]) (by kernel_rfl) ?_;have Mq:=M;refine Yd 2 K M fun _ K=>?_;refine q1 rfl K (Q4 QS rfl rfl (hD.r.len.trans (congrArg some hD.ln))) fun _ K=>?_;obtain⟨v23,st23,ev23,⟨on23,an23,bn23,cn23,nn23,kkn23,A23,rfl,hS23,hN23⟩,q23⟩:=SF (R:=R) M.fresh (((i:Nat):Int)) (((ds.length:Nat):Int));refine qA rfl K (Qf rfl ev23) fun _ K=>?_;replace M:=M.Z5 q23 hS23;simp only[Vk]at M;have Mp:=Mq;have Mq:=M;refine JC rfl K rfl (M.load (k:=0) rfl (Jc QZ rfl)) (Mp.load (k:=0) rfl (Jc QZ rfl)) (Gg (by simp[KU,KV,Hl,Zd hA.en])) rfl Q8 fun _ K=>?_;obtain⟨v24,st24,ev24,⟨on24,an24,bn24,cn24,nn24,kkn24,A24,rfl,hS24,hN24⟩,q24⟩:=KH (R:=(Un R (A++A23))) M.fresh (hA.mono (QH (fun _ _ _ h=>h) (fun x h=>by first|(simp[h];done)|(simp at h;simp[h];done)))) (hN23.mono (QH (fun _ _ _ h=>h) (fun x h=>by first|(simp[h];done)|(simp at h;simp[h];done))));refine qA rfl K (Qf rfl ev24) fun _ K=>?_;replace M:=M.Z5 q24 hS24;replace hN24:=hN24.flat;simp only[Vk]at M;have Mp:=Mq;have Mq:=M;refine AI (k:=0) rfl K M rfl rfl rfl Jm rfl (Qa rfl (Qa rfl (Qa rfl (Qa rfl (Qa rfl (Qa hN24.Ze Q9)))))) rfl fun _ M=>?_;have Mp:=Mq;have Mq:=M;refine Jf ?_;show W _ _ _ _ _ _ _;refine Qb 3 K M fun _ K=>?_;replace M:=Mem.cast (M':=((c3,0,[.str on24,iZ an24,iZ bn24,iZ cn24,iZ nn24,kkn24])::(c2,0,[.str [],iZ 0,iZ 0,iZ 0,iZ 0,.nils])::((A++(A23++A24))++[]))) M Qx
   have hgA:Uy (Un R (A++(A23++A24))) (gC ((ds.length:Nat):Int) ds (i+1)) [.str on24,iZ an24,iZ bn24,iZ cn24,iZ nn24,kkn24]:=by
    rw[Ew hi14];unfold gS
    first
    |(simp only[if_pos (by assumption:_)];exact(hN24.mono (QH (fun _ _ _ h=>h) (fun x hx=>by simp only[List.mem_append]at hx;rcases hx with h|h|h<;>first|(simp[h];done)|(simp at h;simp[h];done)))))
    |(rw[if_neg (by assumption),if_pos (by assumption)];exact(hN24.mono (QH (fun _ _ _ h=>h) (fun x hx=>by simp only[List.mem_append]at hx;rcases hx with h|h|h<;>first|(simp[h];done)|(simp at h;simp[h];done)))))
    |(rw[if_pos (by assumption)];exact(hN24.mono (QH (fun _ _ _ h=>h) (fun x hx=>by simp only[List.mem_append]at hx;rcases hx with h|h|h<;>first|(simp[h];done)|(simp at h;simp[h];done)))))
    |(rw[if_neg (by assumption),if_neg (by assumption)];exact(hN24.mono (QH (fun _ _ _ h=>h) (fun x hx=>by simp only[List.mem_append]at hx;rcases hx with h|h|h<;>first|(simp[h];done)|(simp at h;simp[h];done)))))
   exact⟨_,Qe,i+1,on24,an24,bn24,cn24,nn24,kkn24,(A++(A23++A24)),rfl,(K.sub rfl),M.less (.refl _),Qe,hgA⟩
  refine Qb 2 K M fun _ K=>?_;refine Uk K rfl (fun h25=>?_) fun h25=>?_
  ·refine Qb 3 K M fun _ K=>?_;obtain⟨v30,st30,ev30,⟨on30,an30,bn30,cn30,nn30,kkn30,A30,rfl,hS30,hN30⟩,q30⟩:=KH (R:=(Un R A)) M.fresh hA WL;refine p1 K (Qf rfl ev30) fun _ K=>?_;replace M:=M.Z5 q30 hS30;replace hN30:=hN30.flat;simp only[Vk]at M;refine J9 (k:=0) K M rfl rfl rfl Jm rfl (Qa rfl (Qa rfl (Qa rfl (Qa rfl (Qa rfl (Qa hN30.Ze Q9)))))) rfl fun _ M=>?_;refine Qb 3 K M fun _ K=>?_;replace M:=Mem.cast (M':=((c3,0,[.str on30,iZ an30,iZ bn30,iZ cn30,iZ nn30,kkn30])::(c2,0,[.str [],iZ 0,iZ 0,iZ 0,iZ 0,.nils])::((A++A30)++[]))) M Qx
   have hgA:Uy (Un R (A++A30)) (gC ((ds.length:Nat):Int) ds (i+1)) [.str on30,iZ an30,iZ bn30,iZ cn30,iZ nn30,kkn30]:=by
    rw[Ew hi14];unfold gS
    first
    |(simp only[if_pos (by assumption:_)];exact(hN30.mono (QH (fun _ _ _ h=>h) (fun x hx=>by simp only[List.mem_append]at hx;rcases hx with h|h<;>first|(simp[h];done)|(simp at h;simp[h];done)))))
    |(rw[if_neg (by assumption),if_pos (by assumption)];exact(hN30.mono (QH (fun _ _ _ h=>h) (fun x hx=>by simp only[List.mem_append]at hx;rcases hx with h|h<;>first|(simp[h];done)|(simp at h;simp[h];done)))))
    |(rw[if_pos (by assumption)];exact(hN30.mono (QH (fun _ _ _ h=>h) (fun x hx=>by simp only[List.mem_append]at hx;rcases hx with h|h<;>first|(simp[h];done)|(simp at h;simp[h];done)))))
    |(rw[if_neg (by assumption),if_neg (by assumption)];exact(hN30.mono (QH (fun _ _ _ h=>h) (fun x hx=>by simp only[List.mem_append]at hx;rcases hx with h|h<;>first|(simp[h];done)|(simp at h;simp[h];done)))))
   exact⟨_,Qe,i+1,on30,an30,bn30,cn30,nn30,kkn30,(A++A30),rfl,(K.sub rfl),M.less (.refl _),Qe,hgA⟩
  refine Qb 3 K M fun _ K=>?_
  have hgA:Uy (Un R A) (gC ((ds.length:Nat):Int) ds (i+1)) [.str ov,iZ av,iZ bv,iZ cv,iZ nv,kkv]:=by
   rw[Ew hi14];unfold gS
   first
   |(simp only[if_pos (by assumption:_)];exact hA)
   |(rw[if_neg (by assumption),if_pos (by assumption)];exact hA)
   |(rw[if_pos (by assumption)];exact hA)
   |(rw[if_neg (by assumption),if_neg (by assumption)];exact hA)
  exact⟨_,Qe,i+1,ov,av,bv,cv,nv,kkv,A,rfl,(K.sub rfl),M.less (.refl _),Qe,hgA⟩
 refine QO ?_;show W _ _ _ _ _ _ _;refine Qb 1 K M fun _ K=>?_;refine J9 (k:=1) K M rfl rfl rfl Jm rfl (Qa rfl (Qa rfl (Qa rfl (Qa rfl (Qa rfl (Qa hA.Ze Q9)))))) rfl fun _ M=>?_;refine Qb 0 K M ?_
 have hie:i=ds.length:=by omega
 subst hie;exact⟨FC.of (A:=((c3,0,[.str ov,iZ av,iZ bv,iZ cv,iZ nv,kkv])::(c2,0,[.str ov,iZ av,iZ bv,iZ cv,iZ nv,kkv])::(A++[]))) (hA.mono (QH (fun _ _ _ h=>h) (fun x h=>by first|(simp[h];done)|(simp at h;simp[h];done)))) (M.vq (.refl _)),M.qt⟩
end Go.Proofs.YtildagdnomiahaaGreatDoor
