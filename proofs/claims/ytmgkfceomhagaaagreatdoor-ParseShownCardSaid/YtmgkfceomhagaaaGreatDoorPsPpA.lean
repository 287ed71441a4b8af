/-
  The program's parser: what the next token is, what is read.
-/
import Derived.Test.YtmgkfceomhagaaaGreatDoorPsFill
namespace Go.Proofs.YtmgkfceomhagaaaGreatDoor
open Go Go.RowKit
set_option maxHeartbeats 8000000
set_option linter.unusedVariables false
set_option linter.unusedSimpArgs false
set_option linter.unnecessarySimpa false
set_option linter.unusedSectionVars false
set_option maxRecDepth 100000
variable {cp:Nat} {kl:AV} {st:St} {w:List Nat} {ws:List (List Nat)}

def Z6(kl:AV)(S:PS):List AV:=[kl,.int .i64 (S.i:Nat),.bool (decide (S.e≠0)),.int .i64 S.a,.int .i64 S.e]
def UQ(L:List Tk)(S:PS)(k:Int):Tk:=if(Qc L S).k≠k then RE else Qc L S
def Jz(L:List Tk)(S:PS)(k:Int):PS:=if(Qc L S).k≠k then Qw S (Qc L S).a 2 else⟨S.i+1,S.e,S.a⟩
theorem LP{L:List Tk}{S:PS}(h:(Qc L S).k≠4):S.e=0:=by
 by_cases he:S.e=0
 ·exact he
 ·rw[Ag he]at h;exact absurd rfl h
theorem DH{L:List Tk}{S:PS}(h:JD L S w=true):(Qc L S).k=3:=by
 unfold JD at h;simp only[Bool.and_eq_true,decide_eq_true_eq]at h;exact h.1
theorem NQ{L:List Tk}{S:PS}(h:(Qc L S).k=3):Qb L S=⟨S.i+1,S.e,S.a⟩:=by
 have h3:(Qc L S).k≠4:=by rw[h];decide
 rw[Qb,if_pos ⟨LP h3,h3⟩]
theorem IF{L:List Tk}{S:PS}(h:JD L S w=true):Qb L S=⟨S.i+1,S.e,S.a⟩:=NQ (DH h)
theorem KI{L:List Tk}{S:PS}{k:Int}(hk:k≠4):Jz L S k=if(Qc L S).k≠k then Qw S (Qc L S).a 2 else Qb L S:=by
 unfold Jz
 split
 ·rfl
 ·rename_i h
  have h3:(Qc L S).k≠4:=by rw[Decidable.not_not.1 h];exact hk
  rw[Qb,if_pos ⟨LP h3,h3⟩]
theorem MC{L:List Tk}{S:PS}:Jz L S 1=Jk L S:=KI Qz
theorem Fx{L:List Tk}(hL:zg L)(S:PS){k:Int}(hk:k≠4):ZC L S (Jz L S k):=by
 rw[KI hk]
 split
 ·exact JB _ _ _
 ·exact Qr hL S
theorem uU{i:Nat}{t:List Nat}(hno: ∀m,m<i→ws[m]? ≠some t)(hi:ws[i]? =some w)(h: ¬t=w): ∀m,m<i+1→ws[m]? ≠some t:=fun m hm e=>by
 by_cases h1:m<i
 ·exact hno m h1 e
 ·have h2:m=i:=by omega
  subst h2;rw[hi]at e
  injection e with e
  exact h e.symm
def vK(W:List (List Nat))(s:List Nat)(j:Int):Prop:=(j= -1∧ ∀w∈W,w≠s)∨ ∃n:Nat,j=((n:Nat):Int)∧W[n]? =some s
def qx(L:List Tk)(S:PS)(W:List (List Nat))(j:Int):Prop:=(j= -1∧ ∀w∈W,JD L S w=false)∨ ∃(n:Nat) (w:List Nat),j=((n:Nat):Int)∧W[n]? =some w∧JD L S w=true
def WV(L:List Tk)(S:PS)(j:Int):PS:=if j<0 then S else Qb L S
theorem fm{L:List Tk}{S:PS}{W:List (List Nat)}{j:Int}(h: ¬(Qc L S).k=3)(hj:j= -1):qx L S W j:=.inl ⟨hj,fun w _=>by unfold JD;simp[h]⟩
theorem vz{L:List Tk}{S:PS}{W:List (List Nat)}{j:Int}(h:(Qc L S).k=3)(hj:vK W (Qc L S).s j):qx L S W j:=by
 rcases hj with⟨h1,h2⟩|⟨n,h1,h2⟩
 ·refine .inl ⟨h1,fun w hw=>?_⟩;unfold JD;have:=h2 w hw;simp only[Bool.and_eq_false_iff,decide_eq_false_iff_not];exact .inr fun e=>this e.symm
 ·refine .inr ⟨n,_,h1,h2,?_⟩;unfold JD;simp[h]
theorem YH(hf:QC st){L:List Tk}(hL:QQ st.h.get [cp] 4 (L.map Tk.cells) kl)(hO:Us L){S:PS}(hr:Jh st.h.get cp 0 (Z6 kl S))(hi:S.i<L.length): ∃v st',Ev Tryz.prog Jy 70 [.ptr cp 0 0] st v st'∧v=.agg (Qc L S).cells∧Qt st st':=by
 have hLn:=hO.n;refine Zw Tryz.func70 Tryz.ntmps70 fun T K=>?_;have M:=Mem.start hf;refine au 4 K M ?_;intro c2 _ _ K _ M;refine p1 K (Je rfl (YJ (M.X9 Q3 hr.Vr) (Qg SB rfl))) fun _ K=>?_;refine Qf 0 K M fun _ K=>?_;refine XR K rfl (fun h6=>?_) fun h6=>?_
 ·refine au 2 K M ?_;intro _ _ K _ M;refine Qf 0 K M ?_;refine⟨?_,M.qt⟩;rw[Ag h6];rfl
 refine Qf 0 K M fun _ K=>?_;refine QR (l:=[(0,0),(1,0),(2,0),(3,0),(4,0),(5,0),(6,0),(7,0),(8,0),(9,0),(10,0)]) (by kernel_rfl) ?_;refine JL 3 K M fun _ K=>?_;refine q1 rfl K (Je rfl (YJ (M.X9 Q3 hr.Vr) (Qg W4 rfl))) fun _ K=>?_;refine JL 3 K M fun _ K=>?_;refine q1 rfl K (Je rfl (YJ (M.X9 Q3 hr.Vr) (Qg QK rfl))) fun _ K=>?_;obtain⟨t16,hi16⟩: ∃x,L[S.i]? =some x:=⟨_,List.getElem?_eq_getElem (by first|omega|exact hi|exact hat (by simp_all))⟩;refine zm rfl rfl (QQ.mem M hL Q3) (Ku hi16) K Yt U6 rfl rfl fun _ _ _ _ K=>?_;refine Ju (k:=0) rfl K M rfl rfl rfl Wj rfl rfl rfl fun _ M=>?_;refine QY ?_;show W _ _ _ _ _ _ _;refine Qf 0 K M ?_;refine⟨?_,M.qt⟩;rw[BP (Decidable.not_not.1 h6) hi16];rfl

theorem ZF(hf:QC st){S:PS}(hr:Jh st.h.get cp 0 (Z6 kl S))(at_ e:Int)(he:e≠0): ∃v st',Ev Tryz.prog Jy 69 [.ptr cp 0 0,iZ at_,iZ e] st v st'∧v=.tup []∧Vq [cp] st st'∧Jh st'.h.get cp 0 (Z6 kl (Qw S at_ e)):=by
 refine Zw Tryz.func69 Tryz.ntmps69 fun T K=>?_;have M:=Mem.JV hf hr;refine Qf 5 K M fun _ K=>?_;refine Uj K rfl (fun h10=>?_) fun h10=>?_
 ·have hb10:=h10
  replace h10: ¬(S.e≠0):=by first|exact of_decide_eq_false h10|exact yF h10|simpa using h10
  refine au 14 K M ?_;intro _ _ K _ M;refine⟨.inl rfl,_,XZ,?_⟩;refine⟨rfl,M.Uh,?_⟩;have hF:Qw S at_ e=⟨S.i,e,at_⟩:=if_pos (by simpa using h10);rw[hF,show Z6 kl ⟨S.i,e,at_⟩=[kl,iZ (S.i:Nat),.bool true,iZ at_,iZ e] by simp[Z6,he]];exact M.Ql (k:=0) rfl
 have hb10:=h10
 replace h10:(S.e≠0):=by first|exact of_decide_eq_true h10|exact yT h10|simpa using h10
 refine Yd ?_;refine⟨.inl rfl,_,XZ,?_⟩;refine⟨rfl,M.Uh,?_⟩;rw[show Qw S at_ e=S from if_neg (by simpa using h10)];exact M.Ql (k:=0) rfl

theorem NA(hf:QC st){L:List Tk}(hL:QQ st.h.get [cp] 4 (L.map Tk.cells) kl)(hO:Us L){S:PS}(hr:Jh st.h.get cp 0 (Z6 kl S))(hi:S.i<L.length)(w:List Nat): ∃v st',Ev Tryz.prog Jy 67 [.ptr cp 0 0,.str w] st v st'∧v=.bool (JD L S w)∧Qt st st':=by
 have hLn:=hO.n;refine Zw Tryz.func67 Tryz.ntmps67 fun T K=>?_;have M:=Mem.start hf;refine Qf 2 K M fun _ K=>?_;refine oQ K M (YH M.fresh (QQ.mem M hL Q3) hO (Jh.Uh hf (M.qt.Uh []) hr Q3) hi) rfl rfl fun _ _ K M=>?_;refine p1 K (Ue rfl ((Ve _).trans (Qg QK rfl))) fun _ K=>?_;refine Qf 1 K M fun _ K=>?_;refine Kn K rfl (fun _ e9 K=>?_) fun _ e9 K=>?_
 ·refine Qf 7 K M ?_;refine⟨?_,M.qt⟩;unfold JD
  first|rfl|(simp_all [Qs];done)
 refine Qf 1 K M fun _ K=>?_;obtain⟨v11,st11,ev11,rfl,q11⟩:=YH M.fresh (QQ.mem M hL Q3) hO (Jh.Uh hf (M.qt.Uh []) hr Q3) hi;refine pg K rfl rfl (Qe rfl ev11) fun _ K=>?_;replace M:=M.quiet q11;refine pg K rfl rfl (Ue rfl ((Xh _).trans (Qg QB rfl))) fun _ K=>?_;refine Qf 4 K M ?_;refine⟨?_,M.qt⟩;unfold JD
 first|rfl|(simp_all [Qs];done)

theorem ZD(hf:QC st){L:List Tk}(hL:QQ st.h.get [cp] 4 (L.map Tk.cells) kl)(hO:Us L){S:PS}(hr:Jh st.h.get cp 0 (Z6 kl S))(hi:S.i<L.length)(w:List Nat): ∃v st',Ev Tryz.prog Jy 42 [.ptr cp 0 0,.str w] st v st'∧v=.bool (JD L S w)∧Vq [cp] st st'∧Jh st'.h.get cp 0 (Z6 kl (Qi L S w)):=by
 have hLn:=hO.n;refine Zw Tryz.func42 Tryz.ntmps42 fun T K=>?_;have M:=Mem.JV hf hr;refine Qf 3 K M fun _ K=>?_;refine oQ K M (NA M.fresh (QQ.mem M hL Q3) hO (M.Ql (k:=0) rfl) hi w) rfl rfl fun _ _ K M=>?_;refine Qf 1 K M fun _ K=>?_;refine Uj K rfl (fun h8=>?_) fun h8=>?_
 ·have hb8:=h8
  replace h8:(JD L S w)=false:=by simpa using h8
  refine Qf 1 K M ?_;refine⟨(by simp_all),M.Uh,?_⟩;rw[show Qi L S w=S from(by unfold Qi;simp_all)];exact M.Ql (k:=0) rfl
 have hb8:=h8
 replace h8:(JD L S w)=true:=by simpa using h8
 refine au 9 K M ?_;intro _ _ K _ M;refine Qf 0 K M ?_;refine⟨(by simp_all),M.Uh,?_⟩;rw[show Qi L S w=⟨S.i+1,S.e,S.a⟩from(by rw[Qi,if_pos h8,IF h8])];exact M.Ql (k:=0) rfl

theorem Iz(hf:QC st){L:List Tk}(hL:QQ st.h.get [cp] 4 (L.map Tk.cells) kl)(hO:Us L){S:PS}(hr:Jh st.h.get cp 0 (Z6 kl S))(hi:S.i<L.length)(w:List Nat): ∃v st',Ev Tryz.prog Jy 45 [.ptr cp 0 0,.str w] st v st'∧v=.tup []∧Vq [cp] st st'∧Jh st'.h.get cp 0 (Z6 kl (Q9 L S w)):=by
 have hLn:=hO.n;refine Zw Tryz.func45 Tryz.ntmps45 fun T K=>?_;have M:=Mem.JV hf hr;refine Qf 2 K M fun _ K=>?_;refine oR 0 K M (ZD M.fresh (QQ.mem M hL Q3) hO (M.Ql (k:=0) rfl) hi w) rfl rfl rfl fun _ _ K M=>?_;refine Qf 1 K M fun _ K=>?_;refine Uj K rfl (fun h7=>?_) fun h7=>?_
 ·have hb7:=h7
  replace h7:(JD L S w)=false:=by simpa using h7
  refine Qf 2 K M fun _ K=>?_;refine oQ K M (YH M.fresh (QQ.mem M hL Q3) hO (M.Ql (k:=0) rfl) ((QP hO.t _ _).2 hi)) rfl rfl fun _ _ K M=>?_;refine p1 K (Ue rfl ((J0 _).trans (Qg QK rfl))) fun _ K=>?_;refine oR 0 K M (ZF M.fresh (M.Ql (k:=0) rfl) ((Qc L (Qi L S w)).a) 2 Qz) rfl rfl rfl fun _ _ K M=>?_;refine Xs ?_;refine⟨.inl rfl,_,XZ,?_⟩;refine⟨rfl,M.Uh,?_⟩;rw[show Q9 L S w=(Qw (Qi L S w) ((Qc L (Qi L S w)).a) 2)from(by unfold Q9;simp_all [Qi])];exact M.Ql (k:=0) rfl
 have hb7:=h7
 replace h7:(JD L S w)=true:=by simpa using h7
 refine Yd ?_;refine⟨.inl rfl,_,XZ,?_⟩;refine⟨rfl,M.Uh,?_⟩;rw[show Q9 L S w=(Qi L S w)from(by unfold Q9;simp_all [Qi])];exact M.Ql (k:=0) rfl

theorem I0(hf:QC st){L:List Tk}(hL:QQ st.h.get [cp] 4 (L.map Tk.cells) kl)(hO:Us L){S:PS}(hr:Jh st.h.get cp 0 (Z6 kl S))(hi:S.i<L.length)(k:Int): ∃v st',Ev Tryz.prog Jy 46 [.ptr cp 0 0,iZ k] st v st'∧v=.agg (UQ L S k).cells∧Vq [cp] st st'∧Jh st'.h.get cp 0 (Z6 kl (Jz L S k)):=by
 have hLn:=hO.n;refine Zw Tryz.func46 Tryz.ntmps46 fun T K=>?_;have M:=Mem.JV hf hr;refine au 2 K M ?_;intro c4 _ _ K _ M;refine oQ K M (YH M.fresh (QQ.mem M hL Q3) hO (M.Ql (k:=1) rfl) hi) rfl rfl fun _ _ K M=>?_;refine au 6 K M ?_;intro c5 _ _ K _ M;refine Uj K rfl (fun h11=>?_) fun h11=>?_
 ·have hb11:=h11
  replace h11: ¬((Qc L S).k=k):=by first|exact of_decide_eq_false h11|exact yF h11|simpa using h11
  refine Qf 3 K M fun _ K=>?_;refine oR 2 K M (ZF M.fresh (M.Ql (k:=2) rfl) ((Qc L S).a) 2 Qz) rfl rfl rfl fun _ _ K M=>?_;refine au 2 K M ?_;intro _ _ K _ M;refine Qf 0 K M ?_;refine⟨(by unfold UQ;simp_all [Tk.cells,RE]),M.Uh,?_⟩;rw[show Jz L S k=(Qw S ((Qc L S).a) 2)from(by unfold Jz;simp_all)];exact M.Ql (k:=2) rfl
 have hb11:=h11
 replace h11:((Qc L S).k=k):=by first|exact of_decide_eq_true h11|exact yT h11|simpa using h11
 refine au 10 K M ?_;intro _ _ K _ M;refine Qf 0 K M ?_;refine⟨(by unfold UQ;simp_all [Tk.cells,RE]),M.Uh,?_⟩;rw[show Jz L S k=⟨S.i+1,S.e,S.a⟩from(by unfold Jz;simp_all)];exact M.Ql (k:=2) rfl

theorem MI(hf:QC st){X:List Nat}{kw:AV}(hW:QQ st.h.get X 1 (ws.map fun w=>[AV.str w]) kw)(hb:ws.length≤1000)(t:List Nat): ∃v st',Ev Tryz.prog Jy 88 [kw,.str t] st v st'∧ ∃j:Int,v=iZ j∧ -1≤j∧j<1000∧vK ws t j∧Qt st st':=by
 refine Zw Tryz.func88 Tryz.ntmps88 fun T K=>?_;have M:=Mem.start hf;refine Qf 2 K M fun _ K=>?_;refine p1 K (JJ Ec rfl rfl (hW.len.trans (congrArg some (List.length_map _)))) fun _ K=>?_;refine Qf 1 K M fun _ K=>?_;refine UM (fun mm1 T st9=> ∃(i:Nat),mm1=ws.length-i∧JC [(0,kw),(1,.str t),(7,iZ (ws.length:Nat)),(8,iN i)] T∧Mem st.h.get st.n [] st9 []∧i≤ws.length∧ ∀m,m<i→ws[m]? ≠some t) (fun mm1 T st9 hI=>?_) _ _ _ ⟨0,rfl,(K.sub rfl),M.less (.refl _),(Nat.zero_le _),(fun m hm=>absurd hm (Nat.not_lt_zero _))⟩;obtain⟨i,rfl,K,M,hi,hno⟩:=hI;refine Qf 1 K M fun _ K=>?_;refine XR K rfl (fun h9=>?_) fun h9=>?_
 ·refine Qf 5 K M fun _ K=>?_;obtain⟨w14,hw14⟩: ∃w,ws[i]? =some w:=⟨_,List.getElem?_eq_getElem Qq⟩;obtain⟨x14,m14,f14,q14,_,la14,lo14,lp14⟩:=(QQ.mem M hW Q3).load (i:=i) (cs:=[.str w14]) (by rw[List.getElem?_map,hw14];rfl);refine p1 K (Qo (j:=i) QM (congrArg some q14) rfl (by rw[List.length_map];omega)) fun _ K=>p1 K (Je rfl (lo14 _ 0 _ QB rfl)) fun _ K=>?_;refine Qf 1 K M fun _ K=>?_;refine XR K rfl (fun h16=>?_) fun h16=>?_
  ·refine Qf 2 K M ?_;exact⟨((i:Nat):Int),rfl,by omega,by omega,.inr ⟨i,rfl,by rw[hw14];simp_all⟩,M.qt⟩
  refine Qf 2 K M fun _ K=>?_;exact⟨_,Qq,i+1,rfl,(K.sub rfl),M.less (.refl _),Qq,(uU hno hw14 h16)⟩
 refine Un ?_;show W _ _ _ _ _ _ _;refine Qf 1 K M ?_;refine⟨-1,rfl,by decide,by decide,.inl ⟨rfl,fun w hw e=>?_⟩,M.qt⟩;obtain⟨m,hm,rfl⟩:=List.getElem_of_mem hw;exact hno m Qq (by rw[List.getElem?_eq_getElem hm,e])

theorem V0(hf:QC st){L:List Tk}(hL:QQ st.h.get [cp] 4 (L.map Tk.cells) kl)(hO:Us L){S:PS}(hr:Jh st.h.get cp 0 (Z6 kl S))(hi:S.i<L.length){kw:AV}(hW:QQ st.h.get [cp] 1 (ws.map fun w=>[AV.str w]) kw)(hb:ws.length≤1000): ∃v st',Ev Tryz.prog Jy 66 [.ptr cp 0 0,kw] st v st'∧ ∃j:Int,v=.tup [iZ j,iZ (Qc L S).a]∧ -1≤j∧j<1000∧qx L S ws j∧Vq [cp] st st'∧Jh st'.h.get cp 0 (Z6 kl (WV L S j)):=by
 have hLn:=hO.n;refine Zw Tryz.func66 Tryz.ntmps66 fun T K=>?_;have M:=Mem.JV hf hr;refine Qf 3 K M fun _ K=>?_;refine oQ K M (YH M.fresh (QQ.mem M hL Q3) hO (M.Ql (k:=0) rfl) hi) rfl rfl fun _ _ K M=>?_;refine au 5 K M ?_;intro c6 _ _ K _ M;obtain⟨v13,st13,ev13,j13,rfl,hj13,hk13,hx13,q13⟩:=MI M.fresh (QQ.mem M hW Q3) hb ((Qc L S).s);refine p1 K (Qe rfl ev13) fun _ K=>?_;replace M:=M.quiet q13;refine Qf 4 K M fun _ K=>?_;refine eK K rfl (fun _ e17 K=>?_) fun _ e17 K=>?_
 ·refine Qf 3 K M fun _ K=>?_;refine XR K rfl (fun h20=>?_) fun h20=>?_
  ·refine Ud ?_;refine QR (l:=[(0,0),(1,0),(2,0),(3,0)]) (by kernel_rfl) ?_;refine JL 4 K M fun _ K=>?_;refine QY ?_;show W _ _ _ _ _ _ _;refine Qf 0 K M ?_;refine⟨-1,rfl,by decide,by decide,(show j13= -1 by omega)▸vz e17 hx13,M.Uh,?_⟩;exact M.Ql (k:=1) rfl
  refine au 8 K M ?_;intro _ _ K _ M;refine QR (l:=[(0,0),(1,0),(2,0),(3,0),(4,0)]) (by kernel_rfl) ?_;refine JL 5 K M fun _ K=>?_;refine QY ?_;show W _ _ _ _ _ _ _;refine Qf 0 K M ?_;refine⟨j13,rfl,hj13,hk13,vz e17 hx13,M.Uh,?_⟩;rw[show WV L S j13=⟨S.i+1,S.e,S.a⟩from(if_neg h20).trans (NQ e17)];exact M.Ql (k:=1) rfl
 refine Qf 4 K M fun _ K=>?_;refine QR (l:=[(0,0),(1,0),(2,0),(3,0)]) (by kernel_rfl) ?_;refine JL 4 K M fun _ K=>?_;refine QY ?_;show W _ _ _ _ _ _ _;refine Qf 0 K M ?_;refine⟨-1,rfl,by decide,by decide,fm e17 rfl,M.Uh,?_⟩;exact M.Ql (k:=1) rfl
end Go.Proofs.YtmgkfceomhagaaaGreatDoor
