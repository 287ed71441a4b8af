/-
  The reference's parser: what the next token is, what is read.
-/
import Derived.Test.YtmgkfceomhagaaaGreatDoorPsPaQ
set_option linter.unnecessarySimpa false
set_option linter.unusedSimpArgs false
set_option linter.unusedVariables false
namespace Go.Proofs.YtmgkfceomhagaaaGreatDoor
section
open Go Go.RowKit
set_option maxHeartbeats 8000000
set_option maxRecDepth 100000
variable {cp:Nat} {kl:AV} {st:St}

theorem YT(hf:QC st){L:List Tk}(hL:QQ st.h.get [cp] 4 (L.map Tk.cells) kl)(hO:Us L){S:PS}(hr:Jh st.h.get cp 0 (Wu kl S))(hi:S.i<L.length): ∃v st',Ev Tryz.prog Jy 28 [.ptr cp 0 0] st v st'∧v=.agg (Qc L S).cells∧Qt st st':=by
 have hLn:=hO.n;refine Zw Tryz.func28 Tryz.ntmps28 fun T K=>?_;have M:=Mem.start hf;refine au 4 K M ?_;intro c2 _ _ K _ M;refine p1 K (Je rfl (YJ (M.X9 Q3 hr.Vr) (Qg QK rfl))) fun _ K=>?_;refine Qf 1 K M fun _ K=>?_;refine eU K rfl (fun h7=>?_) fun h7=>?_
 ·refine au 2 K M ?_;intro _ _ K _ M;refine Qf 0 K M ?_;refine⟨?_,M.qt⟩;rw[Ag h7];rfl
 refine Qf 0 K M fun _ K=>?_;refine QR (l:=[(0,0),(1,0),(2,0),(3,0),(4,0),(5,0),(6,0),(7,0),(8,0),(9,0),(10,0)]) (by kernel_rfl) ?_;refine JL 3 K M fun _ K=>?_;refine q1 rfl K (Je rfl (YJ (M.X9 Q3 hr.Vr) (Qg W4 rfl))) fun _ K=>?_;refine JL 3 K M fun _ K=>?_;refine q1 rfl K (Je rfl (YJ (M.X9 Q3 hr.Vr) (Qg QK rfl))) fun _ K=>?_;obtain⟨t17,hi17⟩: ∃x,L[S.i]? =some x:=⟨_,List.getElem?_eq_getElem (by first|omega|exact hi|exact hat (by simp_all))⟩;refine zm rfl rfl (QQ.mem M hL Q3) (Ku hi17) K Yt U6 rfl rfl fun _ _ _ _ K=>?_;refine Ju (k:=0) rfl K M rfl rfl rfl Wj rfl rfl rfl fun _ M=>?_;refine QY ?_;show W _ _ _ _ _ _ _;refine Qf 0 K M ?_;refine⟨?_,M.qt⟩;rw[BP h7 hi17];rfl

theorem ZA(hf:QC st){L:List Tk}(hL:QQ st.h.get [cp] 4 (L.map Tk.cells) kl)(hO:Us L){S:PS}(hr:Jh st.h.get cp 0 (Wu kl S))(hi:S.i<L.length)(w:List Nat): ∃v st',Ev Tryz.prog Jy 22 [.ptr cp 0 0,.str w] st v st'∧v=.bool (JD L S w)∧Qt st st':=by
 have hLn:=hO.n;refine Zw Tryz.func22 Tryz.ntmps22 fun T K=>?_;have M:=Mem.start hf;refine Qf 2 K M fun _ K=>?_;refine oQ K M (YT M.fresh (QQ.mem M hL Q3) hO (Jh.Uh hf (M.qt.Uh []) hr Q3) hi) rfl rfl fun _ _ K M=>?_;refine au 5 K M ?_;intro c5 _ _ K _ M;refine Kn K rfl (fun _ e11 K=>?_) fun _ e11 K=>?_
 ·refine Qf 6 K M ?_;refine⟨?_,M.qt⟩;unfold JD
  first|rfl|(simp_all [Qs];done)
 refine Qf 6 K M ?_;refine⟨?_,M.qt⟩;unfold JD
 first|rfl|(simp_all [Qs];done)

theorem Ya(hf:QC st){S:PS}(hr:Jh st.h.get cp 0 (Wu kl S))(at_ e:Int): ∃v st',Ev Tryz.prog Jy 29 [.ptr cp 0 0,iZ at_,iZ e] st v st'∧v=.tup []∧Vq [cp] st st'∧Jh st'.h.get cp 0 (Wu kl (Qw S at_ e)):=by
 refine Zw Tryz.func29 Tryz.ntmps29 fun T K=>?_;have M:=Mem.JV hf hr;refine Qf 5 K M fun _ K=>?_;refine XR K rfl (fun h10=>?_) fun h10=>?_
 ·refine au 10 K M ?_;intro _ _ K _ M;refine⟨.inl rfl,_,XZ,?_⟩;refine⟨rfl,M.Uh,?_⟩;rw[show Qw S at_ e=⟨S.i,e,at_⟩from if_pos h10];exact M.Ql (k:=0) rfl
 refine Yd ?_;refine⟨.inl rfl,_,XZ,?_⟩;refine⟨rfl,M.Uh,?_⟩;rw[show Qw S at_ e=S from if_neg h10];exact M.Ql (k:=0) rfl

theorem Ux(hf:QC st){L:List Tk}(hL:QQ st.h.get [cp] 4 (L.map Tk.cells) kl)(hO:Us L){S:PS}(hr:Jh st.h.get cp 0 (Wu kl S))(hi:S.i<L.length): ∃v st',Ev Tryz.prog Jy 51 [.ptr cp 0 0] st v st'∧v=.agg (Qc L S).cells∧Vq [cp] st st'∧Jh st'.h.get cp 0 (Wu kl (Qb L S)):=by
 have hLn:=hO.n;refine Zw Tryz.func51 Tryz.ntmps51 fun T K=>?_;have M:=Mem.JV hf hr;refine au 2 K M ?_;intro c2 _ _ K _ M;refine oQ K M (YT M.fresh (QQ.mem M hL Q3) hO (M.Ql (k:=1) rfl) hi) rfl rfl fun _ _ K M=>?_;refine au 7 K M ?_;intro c3 _ _ K _ M;refine Kn K rfl (fun _ e11 K=>?_) fun _ e11 K=>?_
 ·refine au 7 K M ?_;intro _ _ K _ M;refine Qf 0 K M ?_;refine⟨rfl,M.Uh,?_⟩;rw[show Qb L S=S from if_neg (fun h=>e11 h.1)];exact M.Ql (k:=2) rfl
 refine Qf 4 K M fun _ K=>?_;refine eU K rfl (fun h15=>?_) fun h15=>?_
 ·refine au 10 K M ?_;intro _ _ K _ M;refine Qf 0 K M ?_;refine⟨rfl,M.Uh,?_⟩;rw[show Qb L S=⟨S.i+1,S.e,S.a⟩from if_pos ⟨e11,h15⟩];exact M.Ql (k:=2) rfl
 refine au 2 K M ?_;intro _ _ K _ M;refine Qf 0 K M ?_;refine⟨rfl,M.Uh,?_⟩;rw[show Qb L S=S from if_neg (fun h=>h.2 h15)];exact M.Ql (k:=2) rfl

theorem Zz(hf:QC st){L:List Tk}(hL:QQ st.h.get [cp] 4 (L.map Tk.cells) kl)(hO:Us L){S:PS}(hr:Jh st.h.get cp 0 (Wu kl S))(hi:S.i<L.length)(w:List Nat): ∃v st',Ev Tryz.prog Jy 54 [.ptr cp 0 0,.str w] st v st'∧v=.bool (JD L S w)∧Vq [cp] st st'∧Jh st'.h.get cp 0 (Wu kl (Qi L S w)):=by
 have hLn:=hO.n;refine Zw Tryz.func54 Tryz.ntmps54 fun T K=>?_;have M:=Mem.JV hf hr;refine Qf 3 K M fun _ K=>?_;refine oQ K M (ZA M.fresh (QQ.mem M hL Q3) hO (M.Ql (k:=0) rfl) hi w) rfl rfl fun _ _ K M=>?_;refine Qf 1 K M fun _ K=>?_;refine Uj K rfl (fun h8=>?_) fun h8=>?_
 ·have hb8:=h8
  replace h8:(JD L S w)=false:=by simpa using h8
  refine Qf 1 K M ?_;refine⟨(by simp_all),M.Uh,?_⟩;rw[show Qi L S w=S from(by unfold Qi;simp_all)];exact M.Ql (k:=0) rfl
 have hb8:=h8
 replace h8:(JD L S w)=true:=by simpa using h8
 refine Qf 1 K M fun _ K=>?_;refine oR 0 K M (Ux M.fresh (QQ.mem M hL Q3) hO (M.Ql (k:=0) rfl) hi) rfl rfl rfl fun _ _ K M=>?_;refine Qf 1 K M ?_;refine⟨(by simp_all),M.Uh,?_⟩;rw[show Qi L S w=(Qb L S)from(by unfold Qi;simp_all)];exact M.Ql (k:=0) rfl

theorem YX(hf:QC st){L:List Tk}(hL:QQ st.h.get [cp] 4 (L.map Tk.cells) kl)(hO:Us L){S:PS}(hr:Jh st.h.get cp 0 (Wu kl S))(hi:S.i<L.length)(w:List Nat): ∃v st',Ev Tryz.prog Jy 27 [.ptr cp 0 0,.str w] st v st'∧v=.tup []∧Vq [cp] st st'∧Jh st'.h.get cp 0 (Wu kl (Q9 L S w)):=by
 have hLn:=hO.n;refine Zw Tryz.func27 Tryz.ntmps27 fun T K=>?_;have M:=Mem.JV hf hr;refine Qf 2 K M fun _ K=>?_;refine oR 0 K M (Zz M.fresh (QQ.mem M hL Q3) hO (M.Ql (k:=0) rfl) hi w) rfl rfl rfl fun _ _ K M=>?_;refine Qf 1 K M fun _ K=>?_;refine Uj K rfl (fun h7=>?_) fun h7=>?_
 ·have hb7:=h7
  replace h7:(JD L S w)=false:=by simpa using h7
  refine Qf 2 K M fun _ K=>?_;refine oQ K M (YT M.fresh (QQ.mem M hL Q3) hO (M.Ql (k:=0) rfl) ((QP hO.t _ _).2 hi)) rfl rfl fun _ _ K M=>?_;refine p1 K (Ue rfl ((J0 _).trans (Qg QK rfl))) fun _ K=>?_;refine oR 0 K M (Ya M.fresh (M.Ql (k:=0) rfl) ((Qc L (Qi L S w)).a) 2) rfl rfl rfl fun _ _ K M=>?_;refine Xs ?_;refine⟨.inl rfl,_,XZ,?_⟩;refine⟨rfl,M.Uh,?_⟩;rw[show Q9 L S w=(Qw (Qi L S w) ((Qc L (Qi L S w)).a) 2)from(by unfold Q9;simp_all [Qi])];exact M.Ql (k:=0) rfl
 have hb7:=h7
 replace h7:(JD L S w)=true:=by simpa using h7
 refine Yd ?_;refine⟨.inl rfl,_,XZ,?_⟩;refine⟨rfl,M.Uh,?_⟩;rw[show Q9 L S w=(Qi L S w)from(by unfold Q9;simp_all [Qi])];exact M.Ql (k:=0) rfl

theorem Eh(hf:QC st){L:List Tk}(hL:QQ st.h.get [cp] 4 (L.map Tk.cells) kl)(hO:Us L){S:PS}(hr:Jh st.h.get cp 0 (Wu kl S))(hi:S.i<L.length): ∃v st',Ev Tryz.prog Jy 52 [.ptr cp 0 0] st v st'∧v=.agg (Jc L S).cells∧Vq [cp] st st'∧Jh st'.h.get cp 0 (Wu kl (Jk L S)):=by
 have hLn:=hO.n;refine Zw Tryz.func52 Tryz.ntmps52 fun T K=>?_;have M:=Mem.JV hf hr;refine au 2 K M ?_;intro c2 _ _ K _ M;refine oQ K M (YT M.fresh (QQ.mem M hL Q3) hO (M.Ql (k:=1) rfl) hi) rfl rfl fun _ _ K M=>?_;refine p1 K (Ue rfl ((Ve _).trans (Qg QK rfl))) fun _ K=>?_;refine Qf 1 K M fun _ K=>?_;refine eU K rfl (fun h6=>?_) fun h6=>?_
 ·refine Qf 2 K M fun _ K=>?_;refine oQ K M (YT M.fresh (QQ.mem M hL Q3) hO (M.Ql (k:=1) rfl) hi) rfl rfl fun _ _ K M=>?_;refine p1 K (Ue rfl ((J0 _).trans (Qg QK rfl))) fun _ K=>?_;refine oR 1 K M (Ya M.fresh (M.Ql (k:=1) rfl) ((Qc L S).a) 2) rfl rfl rfl fun _ _ K M=>?_;refine au 2 K M ?_;intro _ _ K _ M;refine Qf 0 K M ?_;refine⟨(by unfold Jc;simp_all [Tk.cells,RE]),M.Uh,?_⟩;rw[show Jk L S=(Qw S ((Qc L S).a) 2)from(by unfold Jk;simp_all)];exact M.Ql (k:=1) rfl
 refine Qf 1 K M fun _ K=>?_;refine oR 1 K M (Ux M.fresh (QQ.mem M hL Q3) hO (M.Ql (k:=1) rfl) hi) rfl rfl rfl fun _ _ K M=>?_;refine au 1 K M ?_;intro _ _ K _ M;refine Qf 0 K M ?_;refine⟨(by unfold Jc;simp_all [Tk.cells,RE]),M.Uh,?_⟩;rw[show Jk L S=(Qb L S)from(by unfold Jk;simp_all)];exact M.Ql (k:=1) rfl

theorem I1(hf:QC st){L:List Tk}(hL:QQ st.h.get [cp] 4 (L.map Tk.cells) kl)(hO:Us L){S:PS}(hr:Jh st.h.get cp 0 (Wu kl S))(hi:S.i<L.length)(s:List Nat)(hs:s.length≤1000): ∃v st',Ev Tryz.prog Jy 23 [.ptr cp 0 0,.str s] st v st'∧v=iZ (QI L S s)∧Qt st st':=by
 have hLn:=hO.n;refine Zw Tryz.func23 Tryz.ntmps23 fun T K=>?_;have M:=Mem.start hf;refine Qf 2 K M fun _ K=>?_;refine J1 ?_;refine Qf 2 K M fun _ K=>?_;refine Uj K rfl (fun h7=>?_) fun h7=>?_
 ·have hb7:=h7;replace h7:=of_decide_eq_true h7;refine Qf 4 K M fun _ K=>?_;refine p1 K (I5 XT Nl rfl) fun _ K=>?_;refine au 1 K M ?_;intro c15 _ _ K _ M;refine p1 K (F8 Vz XT UF rfl (Jh.Vr (M.Ql (k:=0) rfl)) (by first|decide|omega)) fun _ K=>p1 K (QS rfl rfl (by first|omega|(simp only[List.length_append,List.length_cons,List.length_nil];omega))) fun _ K=>?_;obtain⟨v18,st18,ev18,rfl,q18⟩:=ZA M.fresh (QQ.mem M hL Q3) hO (Jh.Uh hf (M.qt.Uh []) hr Q3) hi (s++[48]);refine p1 K (Qe rfl ev18) fun _ K=>?_;replace M:=M.quiet q18;refine Qf 0 K M fun _ K=>?_;refine Uj K rfl (fun h18=>?_) fun h18=>?_
  ·have hb18:=h18;refine Qf 2 K M ?_;refine⟨?_,M.qt⟩;unfold QI
   simp_all
  have hb18:=h18;refine Qf 3 K M fun _ K=>?_;refine J1 ?_;refine Qf 2 K M fun _ K=>?_;refine Uj K rfl (fun h7=>?_) fun h7=>?_
  ·have hb7:=h7;replace h7:=of_decide_eq_true h7;refine Qf 4 K M fun _ K=>?_;refine p1 K (I5 XT Nl rfl) fun _ K=>?_;refine au 1 K M ?_;intro c15 _ _ K _ M;refine p1 K (F8 Vz XT UF rfl (Jh.Vr (M.Ql (k:=0) rfl)) (by first|decide|omega)) fun _ K=>p1 K (QS rfl rfl (by first|omega|(simp only[List.length_append,List.length_cons,List.length_nil];omega))) fun _ K=>?_;obtain⟨v18,st18,ev18,rfl,q18⟩:=ZA M.fresh (QQ.mem M hL Q3) hO (Jh.Uh hf (M.qt.Uh []) hr Q3) hi (s++[49]);refine p1 K (Qe rfl ev18) fun _ K=>?_;replace M:=M.quiet q18;refine Qf 0 K M fun _ K=>?_;refine Uj K rfl (fun h18=>?_) fun h18=>?_
   ·have hb18:=h18;refine Qf 2 K M ?_;refine⟨?_,M.qt⟩;unfold QI
    simp_all
   have hb18:=h18;refine Qf 3 K M fun _ K=>?_;refine J1 ?_;refine Qf 2 K M fun _ K=>?_;refine Uj K rfl (fun h7=>?_) fun h7=>?_
   ·have hb7:=h7;replace h7:=of_decide_eq_true h7;refine Qf 4 K M fun _ K=>?_;refine p1 K (I5 XT Nl rfl) fun _ K=>?_;refine au 1 K M ?_;intro c15 _ _ K _ M;refine p1 K (F8 Vz XT UF rfl (Jh.Vr (M.Ql (k:=0) rfl)) (by first|decide|omega)) fun _ K=>p1 K (QS rfl rfl (by first|omega|(simp only[List.length_append,List.length_cons,List.length_nil];omega))) fun _ K=>?_;obtain⟨v18,st18,ev18,rfl,q18⟩:=ZA M.fresh (QQ.mem M hL Q3) hO (Jh.Uh hf (M.qt.Uh []) hr Q3) hi (s++[50]);refine p1 K (Qe rfl ev18) fun _ K=>?_;replace M:=M.quiet q18;refine Qf 0 K M fun _ K=>?_;refine Uj K rfl (fun h18=>?_) fun h18=>?_
    ·have hb18:=h18;refine Qf 2 K M ?_;refine⟨?_,M.qt⟩;unfold QI
     simp_all
    have hb18:=h18;refine Qf 3 K M fun _ K=>?_;refine J1 ?_;refine Qf 2 K M fun _ K=>?_;refine Uj K rfl (fun h7=>?_) fun h7=>?_
    ·have hb7:=h7;replace h7:=of_decide_eq_true h7
     exfalso;omega
    have hb7:=h7;replace h7:=of_decide_eq_false h7;refine Un ?_;show W _ _ _ _ _ _ _;refine Qf 1 K M ?_;refine⟨?_,M.qt⟩;unfold QI
    simp_all
   have hb7:=h7;replace h7:=of_decide_eq_false h7
   exfalso;omega
  have hb7:=h7;replace h7:=of_decide_eq_false h7
  exfalso;omega
 have hb7:=h7;replace h7:=of_decide_eq_false h7
 exfalso;omega
end
section
open Go

theorem Ww{place:Nat→Option (Nat×Nat)}{i off:Nat}{v:AV}{ps:List (Nat×AV)}{l l1:List AV}(hp:place i=some (off,1))(hc:Jn v=true)(ho:X0 [v] off l=some l1):Wf place ((i,v)::ps) l=Wf place ps l1:=by
 rw[H4,hp,Q0,EF hc];show Jm true (ob (X0 [v] off l) _)=_;rw[ho];rfl
theorem ZI{place:Nat→Option (Nat×Nat)}{i off n:Nat}{v:AV}{ps:List (Nat×AV)}{l l1:List AV}(hp:place i=some (off,n))(hn:Nat.beq (Z9 (JU v)) n=true)(ho:X0 (JU v) off l=some l1):Wf place ((i,v)::ps) l=Wf place ps l1:=by
 rw[H4,hp,Q0];show Jm (Nat.beq (Z9 (JU v)) n) (ob (X0 (JU v) off l) _)=_;rw[hn,ho];rfl
end
end Go.Proofs.YtmgkfceomhagaaaGreatDoor
