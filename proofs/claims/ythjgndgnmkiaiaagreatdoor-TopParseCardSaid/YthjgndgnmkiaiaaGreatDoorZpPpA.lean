/-
  The program's parser: what the next token is, what is read.
-/
import Derived.Test.YthjgndgnmkiaiaaGreatDoorZpShP
namespace Go.Proofs.YthjgndgnmkiaiaaGreatDoor
open Go Go.RowKit
set_option maxHeartbeats 8000000
set_option linter.unusedVariables false
set_option linter.unusedSimpArgs false
set_option linter.unnecessarySimpa false
set_option linter.unusedSectionVars false
set_option maxRecDepth 100000
variable {cp:Nat} {kl:AV} {st:St} {w:List Nat} {ws:List (List Nat)}

def Yv(kl:AV)(S:PS):List AV:=[kl,.int .i64 (S.i:Nat),.bool (decide (S.e≠0)),.int .i64 S.a,.int .i64 S.e]
def Qy(L:List Tk)(S:PS)(k:Int):Tk:=if(Qc L S).k≠k then zG else Qc L S
def QS(L:List Tk)(S:PS)(k:Int):PS:=if(Qc L S).k≠k then QJ S (Qc L S).a 2 else⟨S.i+1,S.e,S.a⟩
theorem Nq{L:List Tk}{S:PS}(h:(Qc L S).k≠4):S.e=0:=by
 by_cases he:S.e=0
 ·exact he
 ·rw[IL he]at h;exact absurd rfl h
theorem xn{L:List Tk}{S:PS}(h:JO L S w=true):(Qc L S).k=3:=by
 unfold JO at h;simp only[Bool.and_eq_true,decide_eq_true_eq]at h;exact h.1
theorem Ot{L:List Tk}{S:PS}(h:(Qc L S).k=3):Qd L S=⟨S.i+1,S.e,S.a⟩:=by
 have h3:(Qc L S).k≠4:=by rw[h];decide
 rw[Qd,if_pos ⟨Nq h3,h3⟩]
theorem IX{L:List Tk}{S:PS}(h:JO L S w=true):Qd L S=⟨S.i+1,S.e,S.a⟩:=Ot (xn h)
theorem KY{L:List Tk}{S:PS}{k:Int}(hk:k≠4):QS L S k=if(Qc L S).k≠k then QJ S (Qc L S).a 2 else Qd L S:=by
 unfold QS
 split
 ·rfl
 ·rename_i h
  have h3:(Qc L S).k≠4:=by rw[Decidable.not_not.1 h];exact hk
  rw[Qd,if_pos ⟨Nq h3,h3⟩]
theorem E1{L:List Tk}{S:PS}:QS L S 1=QF L S:=KY Qo
theorem W7{L:List Tk}(hL:qp L)(S:PS){k:Int}(hk:k≠4):Z3 L S (QS L S k):=by
 rw[KY hk]
 split
 ·exact Yb _ _ _
 ·exact QG hL S
theorem xv{i:Nat}{t:List Nat}(hno: ∀m,m<i→ws[m]? ≠some t)(hi:ws[i]? =some w)(h: ¬t=w): ∀m,m<i+1→ws[m]? ≠some t:=fun m hm e=>by
 by_cases h1:m<i
 ·exact hno m h1 e
 ·have h2:m=i:=by omega
  subst h2;rw[hi]at e
  injection e with e
  exact h e.symm
def aY(W:List (List Nat))(s:List Nat)(j:Int):Prop:=(j= -1∧ ∀w∈W,w≠s)∨ ∃n:Nat,j=((n:Nat):Int)∧W[n]? =some s
def u7(L:List Tk)(S:PS)(W:List (List Nat))(j:Int):Prop:=(j= -1∧ ∀w∈W,JO L S w=false)∨ ∃(n:Nat) (w:List Nat),j=((n:Nat):Int)∧W[n]? =some w∧JO L S w=true
def Uv(L:List Tk)(S:PS)(j:Int):PS:=if j<0 then S else Qd L S
theorem lW{L:List Tk}{S:PS}{W:List (List Nat)}{j:Int}(h: ¬(Qc L S).k=3)(hj:j= -1):u7 L S W j:=.inl ⟨hj,fun w _=>by unfold JO;simp[h]⟩
theorem aS{L:List Tk}{S:PS}{W:List (List Nat)}{j:Int}(h:(Qc L S).k=3)(hj:aY W (Qc L S).s j):u7 L S W j:=by
 rcases hj with⟨h1,h2⟩|⟨n,h1,h2⟩
 ·refine .inl ⟨h1,fun w hw=>?_⟩;unfold JO;have:=h2 w hw;simp only[Bool.and_eq_false_iff,decide_eq_false_iff_not];exact .inr fun e=>this e.symm
 ·refine .inr ⟨n,_,h1,h2,?_⟩;unfold JO;simp[h]
theorem kg{L:List Tk}(hL:qp L)(S:PS)(j:Int):Z3 L S (Uv L S j):=by
 unfold Uv
 split
 ·exact Z3.refl _ _
 ·exact QG hL S

theorem Uw(hf:Q3 st){L:List Tk}(hL:Ja st.h.get [cp] 4 (L.map Tk.cells) kl)(hO:UM L){S:PS}(hr:J5 st.h.get cp 0 (Yv kl S))(hi:S.i<L.length): ∃v st',Ev Tryz.prog JF 67 [.ptr cp 0 0] st v st'∧v=.agg (Qc L S).cells∧Qt st st':=by
 have hLn:=hO.n;refine XB Tryz.func67 Tryz.ntmps67 fun T K=>?_;have M:=Mem.start hf;refine au 4 K M ?_;intro c2 _ _ K _ M;refine p1 K (QK rfl (YU (M.XY Q1 hr.WY) (Qj Mh rfl))) fun _ K=>?_;refine Qg 0 K M fun _ K=>?_;refine WU K rfl (fun h6=>?_) fun h6=>?_
 ·refine au 2 K M ?_;intro _ _ K _ M;refine Qg 0 K M ?_;refine⟨?_,M.qt⟩;rw[IL h6];rfl
 refine Qg 0 K M fun _ K=>?_;refine QU (l:=[(0,0),(1,0),(2,0),(3,0),(4,0),(5,0),(6,0),(7,0),(8,0),(9,0),(10,0)]) (by kernel_rfl) ?_;refine Ue 3 K M fun _ K=>?_;refine q1 rfl K (QK rfl (YU (M.XY Q1 hr.WY) (Qj AB rfl))) fun _ K=>?_;refine Ue 3 K M fun _ K=>?_;refine q1 rfl K (QK rfl (YU (M.XY Q1 hr.WY) (Qj J4 rfl))) fun _ K=>?_;obtain⟨t16,hi16⟩: ∃x,L[S.i]? =some x:=⟨_,List.getElem?_eq_getElem (by first|omega|exact hi|exact hat (by simp_all))⟩;refine iT rfl rfl (Ja.mem M hL Q1) (Sw hi16) K ZL Up rfl rfl fun _ _ _ _ K=>?_;refine Um (k:=0) rfl K M rfl rfl rfl ES rfl rfl rfl fun _ M=>?_;refine QZ ?_;show W _ _ _ _ _ _ _;refine Qg 0 K M ?_;refine⟨?_,M.qt⟩;rw[zE (Decidable.not_not.1 h6) hi16];rfl

theorem Yu(hf:Q3 st){S:PS}(hr:J5 st.h.get cp 0 (Yv kl S))(at_ e:Int)(he:e≠0): ∃v st',Ev Tryz.prog JF 66 [.ptr cp 0 0,iZ at_,iZ e] st v st'∧v=.tup []∧EJ [cp] st st'∧J5 st'.h.get cp 0 (Yv kl (QJ S at_ e)):=by
 refine XB Tryz.func66 Tryz.ntmps66 fun T K=>?_;have M:=Mem.UU hf hr;refine Qg 5 K M fun _ K=>?_;refine Zb K rfl (fun h10=>?_) fun h10=>?_
 ·have hb10:=h10
  replace h10: ¬(S.e≠0):=by first|exact of_decide_eq_false h10|exact yF h10|simpa using h10
  refine au 14 K M ?_;intro _ _ K _ M;refine⟨.inl rfl,_,AN,?_⟩;refine⟨rfl,M.Z5,?_⟩;have hF:QJ S at_ e=⟨S.i,e,at_⟩:=if_pos (by simpa using h10);rw[hF,show Yv kl ⟨S.i,e,at_⟩=[kl,iZ (S.i:Nat),.bool true,iZ at_,iZ e] by simp[Yv,he]];exact M.Qv (k:=0) rfl
 have hb10:=h10
 replace h10:(S.e≠0):=by first|exact of_decide_eq_true h10|exact yT h10|simpa using h10
 refine Zg ?_;refine⟨.inl rfl,_,AN,?_⟩;refine⟨rfl,M.Z5,?_⟩;rw[show QJ S at_ e=S from if_neg (by simpa using h10)];exact M.Qv (k:=0) rfl

theorem NW(hf:Q3 st){L:List Tk}(hL:Ja st.h.get [cp] 4 (L.map Tk.cells) kl)(hO:UM L){S:PS}(hr:J5 st.h.get cp 0 (Yv kl S))(hi:S.i<L.length)(w:List Nat): ∃v st',Ev Tryz.prog JF 64 [.ptr cp 0 0,.str w] st v st'∧v=.bool (JO L S w)∧Qt st st':=by
 have hLn:=hO.n;refine XB Tryz.func64 Tryz.ntmps64 fun T K=>?_;have M:=Mem.start hf;refine Qg 2 K M fun _ K=>?_;refine oQ K M (Uw M.fresh (Ja.mem M hL Q1) hO (J5.Z5 hf (M.qt.Z5 []) hr Q1) hi) rfl rfl fun _ _ K M=>?_;refine p1 K (UX rfl ((Wx _).trans (Qj J4 rfl))) fun _ K=>?_;refine Qg 1 K M fun _ K=>?_;refine No K rfl (fun _ e9 K=>?_) fun _ e9 K=>?_
 ·refine Qg 7 K M ?_;refine⟨?_,M.qt⟩;unfold JO
  first|rfl|(simp_all [Ql];done)
 refine Qg 1 K M fun _ K=>?_;obtain⟨v11,st11,ev11,rfl,q11⟩:=Uw M.fresh (Ja.mem M hL Q1) hO (J5.Z5 hf (M.qt.Z5 []) hr Q1) hi;refine pg K rfl rfl (Qh rfl ev11) fun _ K=>?_;replace M:=M.quiet q11;refine pg K rfl rfl (UX rfl ((Ww _).trans (Qj Qr rfl))) fun _ K=>?_;refine Qg 4 K M ?_;refine⟨?_,M.qt⟩;unfold JO
 first|rfl|(simp_all [Ql];done)

theorem Yt(hf:Q3 st){L:List Tk}(hL:Ja st.h.get [cp] 4 (L.map Tk.cells) kl)(hO:UM L){S:PS}(hr:J5 st.h.get cp 0 (Yv kl S))(hi:S.i<L.length)(w:List Nat): ∃v st',Ev Tryz.prog JF 33 [.ptr cp 0 0,.str w] st v st'∧v=.bool (JO L S w)∧EJ [cp] st st'∧J5 st'.h.get cp 0 (Yv kl (Qf L S w)):=by
 have hLn:=hO.n;refine XB Tryz.func33 Tryz.ntmps33 fun T K=>?_;have M:=Mem.UU hf hr;refine Qg 3 K M fun _ K=>?_;refine oQ K M (NW M.fresh (Ja.mem M hL Q1) hO (M.Qv (k:=0) rfl) hi w) rfl rfl fun _ _ K M=>?_;refine Qg 1 K M fun _ K=>?_;refine Zb K rfl (fun h8=>?_) fun h8=>?_
 ·have hb8:=h8
  replace h8:(JO L S w)=false:=by simpa using h8
  refine Qg 1 K M ?_;refine⟨(by simp_all),M.Z5,?_⟩;rw[show Qf L S w=S from(by unfold Qf;simp_all)];exact M.Qv (k:=0) rfl
 have hb8:=h8
 replace h8:(JO L S w)=true:=by simpa using h8
 refine au 9 K M ?_;intro _ _ K _ M;refine Qg 0 K M ?_;refine⟨(by simp_all),M.Z5,?_⟩;rw[show Qf L S w=⟨S.i+1,S.e,S.a⟩from(by rw[Qf,if_pos h8,IX h8])];exact M.Qv (k:=0) rfl

theorem ZC(hf:Q3 st){L:List Tk}(hL:Ja st.h.get [cp] 4 (L.map Tk.cells) kl)(hO:UM L){S:PS}(hr:J5 st.h.get cp 0 (Yv kl S))(hi:S.i<L.length)(w:List Nat): ∃v st',Ev Tryz.prog JF 36 [.ptr cp 0 0,.str w] st v st'∧v=.tup []∧EJ [cp] st st'∧J5 st'.h.get cp 0 (Yv kl (Q2 L S w)):=by
 have hLn:=hO.n;refine XB Tryz.func36 Tryz.ntmps36 fun T K=>?_;have M:=Mem.UU hf hr;refine Qg 2 K M fun _ K=>?_;refine oR 0 K M (Yt M.fresh (Ja.mem M hL Q1) hO (M.Qv (k:=0) rfl) hi w) rfl rfl rfl fun _ _ K M=>?_;refine Qg 1 K M fun _ K=>?_;refine Zb K rfl (fun h7=>?_) fun h7=>?_
 ·have hb7:=h7
  replace h7:(JO L S w)=false:=by simpa using h7
  refine Qg 2 K M fun _ K=>?_;refine oQ K M (Uw M.fresh (Ja.mem M hL Q1) hO (M.Qv (k:=0) rfl) ((J2 hO.t _ _).2 hi)) rfl rfl fun _ _ K M=>?_;refine p1 K (UX rfl ((JT _).trans (Qj J4 rfl))) fun _ K=>?_;refine oR 0 K M (Yu M.fresh (M.Qv (k:=0) rfl) ((Qc L (Qf L S w)).a) 2 Qo) rfl rfl rfl fun _ _ K M=>?_;refine Xr ?_;refine⟨.inl rfl,_,AN,?_⟩;refine⟨rfl,M.Z5,?_⟩;rw[show Q2 L S w=(QJ (Qf L S w) ((Qc L (Qf L S w)).a) 2)from(by unfold Q2;simp_all [Qf])];exact M.Qv (k:=0) rfl
 have hb7:=h7
 replace h7:(JO L S w)=true:=by simpa using h7
 refine Zg ?_;refine⟨.inl rfl,_,AN,?_⟩;refine⟨rfl,M.Z5,?_⟩;rw[show Q2 L S w=(Qf L S w)from(by unfold Q2;simp_all [Qf])];exact M.Qv (k:=0) rfl

theorem Zo(hf:Q3 st){L:List Tk}(hL:Ja st.h.get [cp] 4 (L.map Tk.cells) kl)(hO:UM L){S:PS}(hr:J5 st.h.get cp 0 (Yv kl S))(hi:S.i<L.length)(k:Int): ∃v st',Ev Tryz.prog JF 37 [.ptr cp 0 0,iZ k] st v st'∧v=.agg (Qy L S k).cells∧EJ [cp] st st'∧J5 st'.h.get cp 0 (Yv kl (QS L S k)):=by
 have hLn:=hO.n;refine XB Tryz.func37 Tryz.ntmps37 fun T K=>?_;have M:=Mem.UU hf hr;refine au 2 K M ?_;intro c4 _ _ K _ M;refine oQ K M (Uw M.fresh (Ja.mem M hL Q1) hO (M.Qv (k:=1) rfl) hi) rfl rfl fun _ _ K M=>?_;refine au 6 K M ?_;intro c5 _ _ K _ M;refine Zb K rfl (fun h11=>?_) fun h11=>?_
 ·have hb11:=h11
  replace h11: ¬((Qc L S).k=k):=by first|exact of_decide_eq_false h11|exact yF h11|simpa using h11
  refine Qg 3 K M fun _ K=>?_;refine oR 2 K M (Yu M.fresh (M.Qv (k:=2) rfl) ((Qc L S).a) 2 Qo) rfl rfl rfl fun _ _ K M=>?_;refine au 2 K M ?_;intro _ _ K _ M;refine Qg 0 K M ?_;refine⟨(by unfold Qy;simp_all [Tk.cells,zG]),M.Z5,?_⟩;rw[show QS L S k=(QJ S ((Qc L S).a) 2)from(by unfold QS;simp_all)];exact M.Qv (k:=2) rfl
 have hb11:=h11
 replace h11:((Qc L S).k=k):=by first|exact of_decide_eq_true h11|exact yT h11|simpa using h11
 refine au 10 K M ?_;intro _ _ K _ M;refine Qg 0 K M ?_;refine⟨(by unfold Qy;simp_all [Tk.cells,zG]),M.Z5,?_⟩;rw[show QS L S k=⟨S.i+1,S.e,S.a⟩from(by unfold QS;simp_all)];exact M.Qv (k:=2) rfl

theorem jP(hf:Q3 st){X:List Nat}{kw:AV}(hW:Ja st.h.get X 1 (ws.map fun w=>[AV.str w]) kw)(hb:ws.length≤1000)(t:List Nat): ∃v st',Ev Tryz.prog JF 97 [kw,.str t] st v st'∧ ∃j:Int,v=iZ j∧ -1≤j∧j<1000∧aY ws t j∧Qt st st':=by
 refine XB Tryz.func97 Tryz.ntmps97 fun T K=>?_;have M:=Mem.start hf;refine Qg 2 K M fun _ K=>?_;refine p1 K (Jp WI rfl rfl (hW.len.trans (congrArg some (List.length_map _)))) fun _ K=>?_;refine Qg 1 K M fun _ K=>?_;refine UE (fun mm1 T st9=> ∃(i:Nat),mm1=ws.length-i∧Jn [(0,kw),(1,.str t),(7,iZ (ws.length:Nat)),(8,iN i)] T∧Mem st.h.get st.n [] st9 []∧i≤ws.length∧ ∀m,m<i→ws[m]? ≠some t) (fun mm1 T st9 hI=>?_) _ _ _ ⟨0,rfl,(K.sub rfl),M.less (.refl _),(Nat.zero_le _),(fun m hm=>absurd hm (Nat.not_lt_zero _))⟩;obtain⟨i,rfl,K,M,hi,hno⟩:=hI;refine Qg 1 K M fun _ K=>?_;refine WU K rfl (fun h9=>?_) fun h9=>?_
 ·refine Qg 5 K M fun _ K=>?_;obtain⟨w14,hw14⟩: ∃w,ws[i]? =some w:=⟨_,List.getElem?_eq_getElem Qk⟩;obtain⟨x14,m14,f14,q14,_,la14,lo14,lp14⟩:=(Ja.mem M hW Q1).load (i:=i) (cs:=[.str w14]) (by rw[List.getElem?_map,hw14];rfl);refine p1 K (Qp (j:=i) UZ (congrArg some q14) rfl (by rw[List.length_map];omega)) fun _ K=>p1 K (QK rfl (lo14 _ 0 _ Qr rfl)) fun _ K=>?_;refine Qg 1 K M fun _ K=>?_;refine WU K rfl (fun h16=>?_) fun h16=>?_
  ·refine Qg 2 K M ?_;exact⟨((i:Nat):Int),rfl,by omega,by omega,.inr ⟨i,rfl,by rw[hw14];simp_all⟩,M.qt⟩
  refine Qg 2 K M fun _ K=>?_;exact⟨_,Qk,i+1,rfl,(K.sub rfl),M.less (.refl _),Qk,(xv hno hw14 h16)⟩
 refine Uz ?_;show W _ _ _ _ _ _ _;refine Qg 1 K M ?_;refine⟨-1,rfl,by decide,by decide,.inl ⟨rfl,fun w hw e=>?_⟩,M.qt⟩;obtain⟨m,hm,rfl⟩:=List.getElem_of_mem hw;exact hno m Qk (by rw[List.getElem?_eq_getElem hm,e])

theorem Vl(hf:Q3 st){L:List Tk}(hL:Ja st.h.get [cp] 4 (L.map Tk.cells) kl)(hO:UM L){S:PS}(hr:J5 st.h.get cp 0 (Yv kl S))(hi:S.i<L.length){kw:AV}(hW:Ja st.h.get [cp] 1 (ws.map fun w=>[AV.str w]) kw)(hb:ws.length≤1000): ∃v st',Ev Tryz.prog JF 63 [.ptr cp 0 0,kw] st v st'∧ ∃j:Int,v=.tup [iZ j,iZ (Qc L S).a]∧ -1≤j∧j<1000∧u7 L S ws j∧EJ [cp] st st'∧J5 st'.h.get cp 0 (Yv kl (Uv L S j)):=by
 have hLn:=hO.n;refine XB Tryz.func63 Tryz.ntmps63 fun T K=>?_;have M:=Mem.UU hf hr;refine Qg 3 K M fun _ K=>?_;refine oQ K M (Uw M.fresh (Ja.mem M hL Q1) hO (M.Qv (k:=0) rfl) hi) rfl rfl fun _ _ K M=>?_;refine au 5 K M ?_;intro c6 _ _ K _ M;obtain⟨v13,st13,ev13,j13,rfl,hj13,hk13,hx13,q13⟩:=jP M.fresh (Ja.mem M hW Q1) hb ((Qc L S).s);refine p1 K (Qh rfl ev13) fun _ K=>?_;replace M:=M.quiet q13;refine Qg 4 K M fun _ K=>?_;refine nX K rfl (fun _ e17 K=>?_) fun _ e17 K=>?_
 ·refine Qg 3 K M fun _ K=>?_;refine WU K rfl (fun h20=>?_) fun h20=>?_
  ·refine JK ?_;refine QU (l:=[(0,0),(1,0),(2,0),(3,0)]) (by kernel_rfl) ?_;refine Ue 4 K M fun _ K=>?_;refine QZ ?_;show W _ _ _ _ _ _ _;refine Qg 0 K M ?_;refine⟨-1,rfl,by decide,by decide,(show j13= -1 by omega)▸aS e17 hx13,M.Z5,?_⟩;exact M.Qv (k:=1) rfl
  refine au 8 K M ?_;intro _ _ K _ M;refine QU (l:=[(0,0),(1,0),(2,0),(3,0),(4,0)]) (by kernel_rfl) ?_;refine Ue 5 K M fun _ K=>?_;refine QZ ?_;show W _ _ _ _ _ _ _;refine Qg 0 K M ?_;refine⟨j13,rfl,hj13,hk13,aS e17 hx13,M.Z5,?_⟩;rw[show Uv L S j13=⟨S.i+1,S.e,S.a⟩from(if_neg h20).trans (Ot e17)];exact M.Qv (k:=1) rfl
 refine Qg 4 K M fun _ K=>?_;refine QU (l:=[(0,0),(1,0),(2,0),(3,0)]) (by kernel_rfl) ?_;refine Ue 4 K M fun _ K=>?_;refine QZ ?_;show W _ _ _ _ _ _ _;refine Qg 0 K M ?_;refine⟨-1,rfl,by decide,by decide,lW e17 rfl,M.Z5,?_⟩;exact M.Qv (k:=1) rfl
end Go.Proofs.YthjgndgnmkiaiaaGreatDoor
