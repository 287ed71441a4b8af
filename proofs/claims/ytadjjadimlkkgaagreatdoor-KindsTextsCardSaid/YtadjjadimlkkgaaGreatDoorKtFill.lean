/-
  The reference's parser: what the next token is, what is read.
-/
import Derived.Test.YtadjjadimlkkgaaGreatDoorKtPaQ
set_option linter.unnecessarySimpa false
set_option linter.unusedSimpArgs false
set_option linter.unusedVariables false
section
namespace Go.Proofs.YtadjjadimlkkgaaGreatDoor
open Go Go.RowKit
set_option maxHeartbeats 8000000
set_option maxRecDepth 100000

theorem YL{st:St}(hf:Q3 st){cp:Nat}{L:List Tk}{kl:AV}(hL:J8 st.h.get [cp] 4 (L.map Tk.cells) kl)(hO:YH L){S:PS}(hr:JS st.h.get cp 0 (Wl kl S))(hi:S.i<L.length): ∃v st',Ev Tryz.prog Jg 41 [.ptr cp 0 0] st v st'∧v=.agg (Qh L S).cells∧Qt st st':=by
 have hLn:=hO.n;refine QG rfl Tryz.func41 rfl Tryz.ntmps41 rfl fun T hT=>?_;have K:Jk [(0,_)] T:=(.cons (hT 0) .nil);have M:=Mem.start hf;refine au 4 K M ?_;intro c2 _ _ K _ M;refine o1 K (Qq rfl (YM (M.An (by simp) hr.Vl) (Ql QA rfl))) rfl fun _ K=>?_;refine Qc 1 K M ?_;intro _ K;refine IU K rfl (fun h7=>?_) fun h7=>?_
 ·refine Qw<|Qi<|o1 K (QH Zt rfl rfl) rfl fun _ K=>?_;refine au 1 K M ?_;intro _ _ K _ M;refine Qd ⟨.inr rfl,_,XG 0 K M rfl rfl rfl,?_⟩;refine⟨?_,M.qt⟩;rw[KD h7];rfl
 refine QO ?_;show W _ _ _ _ _ _ _;refine Qw ?_;refine Jr (l:=[(0,0),(1,0),(2,0),(3,0),(4,0),(5,0),(6,0),(7,0),(8,0),(9,0),(10,0)]) (by kernel_rfl) ?_;refine d1 rfl K (Qb rfl) rfl rfl fun _ K=>d1 rfl K (JY rfl rfl) rfl rfl fun _ K=>d1 rfl K (Qf YE rfl) rfl rfl fun _ K=>d1 rfl K (Qq rfl (YM (M.An (by simp) hr.Vl) (Ql XK rfl))) rfl rfl fun _ K=>d1 rfl K (Qb rfl) rfl rfl fun _ K=>d1 rfl K (JY rfl rfl) rfl rfl fun _ K=>d1 rfl K (Qf YD rfl) rfl rfl fun _ K=>d1 rfl K (Qq rfl (YM (M.An (by simp) hr.Vl) (Ql QA rfl))) rfl rfl fun _ K=>?_;obtain⟨t17,hi17⟩: ∃x,L[S.i]? =some x:=⟨_,List.getElem?_eq_getElem (by first|omega|exact hi|exact hat (by simp_all))⟩;obtain⟨x17,m17,f17,q17,_,la17,lo17,lp17⟩:=(J8.mem M hL (by simp)).load (i:=S.i) (cs:=_) (Cd hi17);refine d1 rfl K (Qn (j:=S.i) YB (congrArg some q17) rfl (by rw[List.length_map];first|omega|exact hi|exact hat (by simp_all))) rfl rfl fun _ K=>d1 rfl K (Qq rfl (la17 _ UB)) rfl rfl fun _ K=>?_;refine Uk (k:=0) rfl K M rfl rfl rfl EM rfl rfl rfl fun _ M=>?_;refine J4 ?_;show W _ _ _ _ _ _ _;refine Qd ⟨.inr rfl,_,XG 0 K M rfl rfl rfl,?_⟩;refine⟨?_,M.qt⟩;rw[jD h7 hi17];rfl

theorem Zz{st:St}(hf:Q3 st){cp:Nat}{L:List Tk}{kl:AV}(hL:J8 st.h.get [cp] 4 (L.map Tk.cells) kl)(hO:YH L){S:PS}(hr:JS st.h.get cp 0 (Wl kl S))(hi:S.i<L.length)(w:List Nat): ∃v st',Ev Tryz.prog Jg 35 [.ptr cp 0 0,.str w] st v st'∧v=.bool (UM L S w)∧Qt st st':=by
 have hLn:=hO.n;refine QG rfl Tryz.func35 rfl Tryz.ntmps35 rfl fun T hT=>?_;have K:Jk [(0,_),(1,_)] T:=(.cons (hT 0) (.cons (hT 1) .nil));have M:=Mem.start hf;refine Qc 2 K M ?_;intro _ K;refine oQ K M (YL M.fresh (J8.mem M hL (by simp)) hO (JS.UG hf (M.qt.UG []) hr (by simp)) hi) rfl rfl fun _ _ K M=>?_;refine au 5 K M ?_;intro c5 _ _ K _ M;refine oB K (Qb rfl) rfl fun b11 _ e11 K=>?_;cases b11
 ·replace e11:=of_decide_eq_false e11;refine Qc 6 K M ?_;intro _ K;refine Qd ⟨.inr rfl,_,J7 K rfl,?_⟩;refine⟨?_,M.qt⟩;unfold UM
  first|rfl|(simp_all [Qo];done)
 replace e11:=of_decide_eq_true e11;refine Qc 6 K M ?_;intro _ K;refine Qd ⟨.inr rfl,_,J7 K rfl,?_⟩;refine⟨?_,M.qt⟩;unfold UM
 first|rfl|(simp_all [Qo];done)

theorem UT{st:St}(hf:Q3 st){cp:Nat}{kl:AV}{S:PS}(hr:JS st.h.get cp 0 (Wl kl S))(at_ e:Int): ∃v st',Ev Tryz.prog Jg 42 [.ptr cp 0 0,.int .i64 at_,.int .i64 e] st v st'∧v=.tup []∧Fb [cp] st st'∧JS st'.h.get cp 0 (Wl kl (Qz S at_ e)):=by
 refine QG rfl Tryz.func42 rfl Tryz.ntmps42 rfl fun T hT=>?_;have K:Jk [(0,_),(1,_),(2,_)] T:=(.cons (hT 0) (.cons (hT 1) (.cons (hT 2) .nil)));have M:=Mem.Yv hf hr;refine Qc 5 K M ?_;intro _ K;refine YX K rfl (fun h10=>?_) fun h10=>?_
 ·refine au 10 K M ?_;intro _ _ K _ M;refine⟨.inl rfl,_,A4,?_⟩;refine⟨rfl,M.UG,?_⟩;rw[show Qz S at_ e=⟨S.i,e,at_⟩from if_pos h10];exact M.Qr (k:=0) rfl
 refine QO ?_;refine⟨.inl rfl,_,A4,?_⟩;refine⟨rfl,M.UG,?_⟩;rw[show Qz S at_ e=S from if_neg h10];exact M.Qr (k:=0) rfl

theorem Uo{st:St}(hf:Q3 st){cp:Nat}{L:List Tk}{kl:AV}(hL:J8 st.h.get [cp] 4 (L.map Tk.cells) kl)(hO:YH L){S:PS}(hr:JS st.h.get cp 0 (Wl kl S))(hi:S.i<L.length): ∃v st',Ev Tryz.prog Jg 80 [.ptr cp 0 0] st v st'∧v=.agg (Qh L S).cells∧Fb [cp] st st'∧JS st'.h.get cp 0 (Wl kl (Qe L S)):=by
 have hLn:=hO.n;refine QG rfl Tryz.func80 rfl Tryz.ntmps80 rfl fun T hT=>?_;have K:Jk [(0,_)] T:=(.cons (hT 0) .nil);have M:=Mem.Yv hf hr;refine au 2 K M ?_;intro c2 _ _ K _ M;refine oQ K M (YL M.fresh (J8.mem M hL (by simp)) hO (M.Qr (k:=1) rfl) hi) rfl rfl fun _ _ K M=>?_;refine au 7 K M ?_;intro c3 _ _ K _ M;refine oB K (Qb rfl) rfl fun b11 _ e11 K=>?_;cases b11
 ·replace e11:=of_decide_eq_false e11;refine Qc 4 K M ?_;intro _ K;refine Qj (t:=false) (K.QN rfl) (fun h=>by cases h) (fun _=>?_);refine au 2 K M ?_;intro _ _ K _ M;refine Qd ⟨.inr rfl,_,XG 1 K M rfl rfl rfl,?_⟩;refine⟨rfl,M.UG,?_⟩;rw[show Qe L S=S from if_neg (fun h=>e11 h.1)];exact M.Qr (k:=2) rfl
 replace e11:=of_decide_eq_true e11;refine Qc 4 K M ?_;intro _ K;refine IU K rfl (fun h15=>?_) fun h15=>?_
 ·refine Qc 4 K M ?_;intro _ K;refine o1 K (QV rfl rfl (by omega) (by omega)) rfl fun _ K=>?_;refine au 5 K M ?_;intro _ _ K _ M;refine Qd ⟨.inr rfl,_,XG 1 K M rfl rfl rfl,?_⟩;refine⟨rfl,M.UG,?_⟩;rw[show Qe L S=⟨S.i+1,S.e,S.a⟩from if_pos ⟨e11,h15⟩];exact M.Qr (k:=2) rfl
 refine au 2 K M ?_;intro _ _ K _ M;refine Qd ⟨.inr rfl,_,XG 1 K M rfl rfl rfl,?_⟩;refine⟨rfl,M.UG,?_⟩;rw[show Qe L S=S from if_neg (fun h=>h.2 h15)];exact M.Qr (k:=2) rfl

theorem Zs{st:St}(hf:Q3 st){cp:Nat}{L:List Tk}{kl:AV}(hL:J8 st.h.get [cp] 4 (L.map Tk.cells) kl)(hO:YH L){S:PS}(hr:JS st.h.get cp 0 (Wl kl S))(hi:S.i<L.length)(w:List Nat): ∃v st',Ev Tryz.prog Jg 83 [.ptr cp 0 0,.str w] st v st'∧v=.bool (UM L S w)∧Fb [cp] st st'∧JS st'.h.get cp 0 (Wl kl (Q6 L S w)):=by
 have hLn:=hO.n;refine QG rfl Tryz.func83 rfl Tryz.ntmps83 rfl fun T hT=>?_;have K:Jk [(0,_),(1,_)] T:=(.cons (hT 0) (.cons (hT 1) .nil));have M:=Mem.Yv hf hr;refine Qc 3 K M ?_;intro _ K;refine oQ K M (Zz M.fresh (J8.mem M hL (by simp)) hO (M.Qr (k:=0) rfl) hi w) rfl rfl fun _ _ K M=>?_;refine Qc 1 K M ?_;intro _ K;refine Qj (K.QN rfl) (fun h8=>?_) (fun h8=>?_)
 ·have hb8:=h8
  replace h8:(UM L S w)=false:=by first|simpa using h8|(revert h8;cases(UM L S w)<;>simp)
  refine Qc 1 K M ?_;intro _ K;refine Qd ⟨.inr rfl,_,J7 K rfl,?_⟩;refine⟨(by simp_all),M.UG,?_⟩;rw[show Q6 L S w=S from(by unfold Q6;simp_all)];exact M.Qr (k:=0) rfl
 have hb8:=h8
 replace h8:(UM L S w)=true:=by first|simpa using h8|(revert h8;cases(UM L S w)<;>simp)
 refine Qc 1 K M ?_;intro _ K;refine oR 0 K M (Uo M.fresh (J8.mem M hL (by simp)) hO (M.Qr (k:=0) rfl) hi) rfl rfl rfl fun _ _ K M=>?_;refine Qc 1 K M ?_;intro _ K;refine Qd ⟨.inr rfl,_,J7 K rfl,?_⟩;refine⟨(by simp_all),M.UG,?_⟩;rw[show Q6 L S w=(Qe L S)from(by unfold Q6;simp_all)];exact M.Qr (k:=0) rfl

theorem YS{st:St}(hf:Q3 st){cp:Nat}{L:List Tk}{kl:AV}(hL:J8 st.h.get [cp] 4 (L.map Tk.cells) kl)(hO:YH L){S:PS}(hr:JS st.h.get cp 0 (Wl kl S))(hi:S.i<L.length)(w:List Nat): ∃v st',Ev Tryz.prog Jg 40 [.ptr cp 0 0,.str w] st v st'∧v=.tup []∧Fb [cp] st st'∧JS st'.h.get cp 0 (Wl kl (QT L S w)):=by
 have hLn:=hO.n;refine QG rfl Tryz.func40 rfl Tryz.ntmps40 rfl fun T hT=>?_;have K:Jk [(0,_),(1,_)] T:=(.cons (hT 0) (.cons (hT 1) .nil));have M:=Mem.Yv hf hr;refine Qc 2 K M ?_;intro _ K;refine oR 0 K M (Zs M.fresh (J8.mem M hL (by simp)) hO (M.Qr (k:=0) rfl) hi w) rfl rfl rfl fun _ _ K M=>?_;refine Qc 1 K M ?_;intro _ K;refine Qj (K.QN rfl) (fun h7=>?_) (fun h7=>?_)
 ·have hb7:=h7
  replace h7:(UM L S w)=false:=by first|simpa using h7|(revert h7;cases(UM L S w)<;>simp)
  refine Qc 2 K M ?_;intro _ K;refine oQ K M (YL M.fresh (J8.mem M hL (by simp)) hO (M.Qr (k:=0) rfl) ((Jd hO.t _ _).2 hi)) rfl rfl fun _ _ K M=>?_;refine o1 K (Y9 rfl ((UA _).trans (Ql QA rfl))) rfl fun _ K=>?_;refine oR 0 K M (UT M.fresh (M.Qr (k:=0) rfl) ((Qh L (Q6 L S w)).a) 2) rfl rfl rfl fun _ _ K M=>?_;refine Q5 ?_;refine⟨.inl rfl,_,A4,?_⟩;refine⟨rfl,M.UG,?_⟩;rw[show QT L S w=(Qz (Q6 L S w) ((Qh L (Q6 L S w)).a) 2)from(by unfold QT;simp_all [Q6])];exact M.Qr (k:=0) rfl
 have hb7:=h7
 replace h7:(UM L S w)=true:=by first|simpa using h7|(revert h7;cases(UM L S w)<;>simp)
 refine QO ?_;refine⟨.inl rfl,_,A4,?_⟩;refine⟨rfl,M.UG,?_⟩;rw[show QT L S w=(Q6 L S w)from(by unfold QT;simp_all [Q6])];exact M.Qr (k:=0) rfl

theorem WX{st:St}(hf:Q3 st){cp:Nat}{L:List Tk}{kl:AV}(hL:J8 st.h.get [cp] 4 (L.map Tk.cells) kl)(hO:YH L){S:PS}(hr:JS st.h.get cp 0 (Wl kl S))(hi:S.i<L.length): ∃v st',Ev Tryz.prog Jg 81 [.ptr cp 0 0] st v st'∧v=.agg (Je L S).cells∧Fb [cp] st st'∧JS st'.h.get cp 0 (Wl kl (Jf L S)):=by
 have hLn:=hO.n;refine QG rfl Tryz.func81 rfl Tryz.ntmps81 rfl fun T hT=>?_;have K:Jk [(0,_)] T:=(.cons (hT 0) .nil);have M:=Mem.Yv hf hr;refine au 2 K M ?_;intro c2 _ _ K _ M;refine oQ K M (YL M.fresh (J8.mem M hL (by simp)) hO (M.Qr (k:=1) rfl) hi) rfl rfl fun _ _ K M=>?_;refine o1 K (Y9 rfl ((WE _).trans (Ql QA rfl))) rfl fun _ K=>?_;refine Qc 1 K M ?_;intro _ K;refine IU K rfl (fun h6=>?_) fun h6=>?_
 ·refine Qc 2 K M ?_;intro _ K;refine oQ K M (YL M.fresh (J8.mem M hL (by simp)) hO (M.Qr (k:=1) rfl) hi) rfl rfl fun _ _ K M=>?_;refine o1 K (Y9 rfl ((UA _).trans (Ql QA rfl))) rfl fun _ K=>?_;refine oR 1 K M (UT M.fresh (M.Qr (k:=1) rfl) ((Qh L S).a) 2) rfl rfl rfl fun _ _ K M=>?_;refine Q5 ?_;show W _ _ _ _ _ _ _;refine Qw<|Qi<|o1 K (QH Zt rfl rfl) rfl fun _ K=>?_;refine au 1 K M ?_;intro _ _ K _ M;refine Qd ⟨.inr rfl,_,XG 0 K M rfl rfl rfl,?_⟩;refine⟨(by unfold Je;simp_all [Tk.cells,jE]),M.UG,?_⟩;rw[show Jf L S=(Qz S ((Qh L S).a) 2)from(by unfold Jf;simp_all)];exact M.Qr (k:=1) rfl
 refine Qc 1 K M ?_;intro _ K;refine oR 1 K M (Uo M.fresh (J8.mem M hL (by simp)) hO (M.Qr (k:=1) rfl) hi) rfl rfl rfl fun _ _ K M=>?_;refine au 1 K M ?_;intro _ _ K _ M;refine Qd ⟨.inr rfl,_,XG 0 K M rfl rfl rfl,?_⟩;refine⟨(by unfold Je;simp_all [Tk.cells,jE]),M.UG,?_⟩;rw[show Jf L S=(Qe L S)from(by unfold Jf;simp_all)];exact M.Qr (k:=1) rfl

theorem H6{st:St}(hf:Q3 st){cp:Nat}{L:List Tk}{kl:AV}(hL:J8 st.h.get [cp] 4 (L.map Tk.cells) kl)(hO:YH L){S:PS}(hr:JS st.h.get cp 0 (Wl kl S))(hi:S.i<L.length)(s:List Nat)(hs:s.length≤1000): ∃v st',Ev Tryz.prog Jg 36 [.ptr cp 0 0,.str s] st v st'∧v=.int .i64 (QS L S s)∧Qt st st':=by
 have hLn:=hO.n;refine QG rfl Tryz.func36 rfl Tryz.ntmps36 rfl fun T hT=>?_;have K:Jk [(0,_),(1,_)] T:=(.cons (hT 0) (.cons (hT 1) .nil));have M:=Mem.start hf;refine Qc 2 K M ?_;intro _ K;refine Un ?_;refine Qc 2 K M ?_;intro _ K;refine Qj (K.QN rfl) (fun h7=>?_) (fun h7=>?_)
 ·have hb7:=h7;replace h7:=of_decide_eq_true h7;refine Qc 3 K M ?_;intro _ K;refine o1 K (QV rfl rfl (by omega) (by omega)) rfl fun _ K=>o1 K (H8 Wq O1 rfl) rfl fun _ K=>?_;refine ZJ K M FN Ar rfl rfl rfl rfl rfl fun c15 _ _ K M=>?_;refine o1 K (IA EI Wq UY rfl (JS.Vl (M.Qr (k:=0) rfl)) (by first|decide|omega)) rfl fun _ K=>o1 K (OJ rfl rfl (by first|omega|(simp only[List.length_append,List.length_cons,List.length_nil];omega))) rfl fun _ K=>?_;obtain⟨v18,st18,ev18,rfl,q18⟩:=Zz M.fresh (J8.mem M hL (by simp)) hO (JS.UG hf (M.qt.UG []) hr (by simp)) hi (s++[48]);refine o1 K (Qg rfl ev18) rfl fun _ K=>?_;replace M:=M.quiet q18;refine Q5 ?_;show W _ _ _ _ _ _ _;refine Qj (K.QN rfl) (fun h18=>?_) (fun h18=>?_)
  ·have hb18:=h18;refine Qc 2 K M ?_;intro _ K;refine Qd ⟨.inr rfl,_,J7 K rfl,?_⟩;refine⟨?_,M.qt⟩;unfold QS
   simp_all
  have hb18:=h18;refine Qc 1 K M ?_;intro _ K;refine o1 K (QV rfl rfl (by omega) (by omega)) rfl fun _ K=>?_;refine Qc 1 K M ?_;intro _ K;refine Un ?_;refine Qc 2 K M ?_;intro _ K;refine Qj (K.QN rfl) (fun h7=>?_) (fun h7=>?_)
  ·have hb7:=h7;replace h7:=of_decide_eq_true h7;refine Qc 3 K M ?_;intro _ K;refine o1 K (QV rfl rfl (by omega) (by omega)) rfl fun _ K=>o1 K (H8 Wq O1 rfl) rfl fun _ K=>?_;refine ZJ K M FN Ar rfl rfl rfl rfl rfl fun c15 _ _ K M=>?_;refine o1 K (IA EI Wq UY rfl (JS.Vl (M.Qr (k:=0) rfl)) (by first|decide|omega)) rfl fun _ K=>o1 K (OJ rfl rfl (by first|omega|(simp only[List.length_append,List.length_cons,List.length_nil];omega))) rfl fun _ K=>?_;obtain⟨v18,st18,ev18,rfl,q18⟩:=Zz M.fresh (J8.mem M hL (by simp)) hO (JS.UG hf (M.qt.UG []) hr (by simp)) hi (s++[49]);refine o1 K (Qg rfl ev18) rfl fun _ K=>?_;replace M:=M.quiet q18;refine Q5 ?_;show W _ _ _ _ _ _ _;refine Qj (K.QN rfl) (fun h18=>?_) (fun h18=>?_)
   ·have hb18:=h18;refine Qc 2 K M ?_;intro _ K;refine Qd ⟨.inr rfl,_,J7 K rfl,?_⟩;refine⟨?_,M.qt⟩;unfold QS
    simp_all
   have hb18:=h18;refine Qc 1 K M ?_;intro _ K;refine o1 K (QV rfl rfl (by omega) (by omega)) rfl fun _ K=>?_;refine Qc 1 K M ?_;intro _ K;refine Un ?_;refine Qc 2 K M ?_;intro _ K;refine Qj (K.QN rfl) (fun h7=>?_) (fun h7=>?_)
   ·have hb7:=h7;replace h7:=of_decide_eq_true h7;refine Qc 3 K M ?_;intro _ K;refine o1 K (QV rfl rfl (by omega) (by omega)) rfl fun _ K=>o1 K (H8 Wq O1 rfl) rfl fun _ K=>?_;refine ZJ K M FN Ar rfl rfl rfl rfl rfl fun c15 _ _ K M=>?_;refine o1 K (IA EI Wq UY rfl (JS.Vl (M.Qr (k:=0) rfl)) (by first|decide|omega)) rfl fun _ K=>o1 K (OJ rfl rfl (by first|omega|(simp only[List.length_append,List.length_cons,List.length_nil];omega))) rfl fun _ K=>?_;obtain⟨v18,st18,ev18,rfl,q18⟩:=Zz M.fresh (J8.mem M hL (by simp)) hO (JS.UG hf (M.qt.UG []) hr (by simp)) hi (s++[50]);refine o1 K (Qg rfl ev18) rfl fun _ K=>?_;replace M:=M.quiet q18;refine Q5 ?_;show W _ _ _ _ _ _ _;refine Qj (K.QN rfl) (fun h18=>?_) (fun h18=>?_)
    ·have hb18:=h18;refine Qc 2 K M ?_;intro _ K;refine Qd ⟨.inr rfl,_,J7 K rfl,?_⟩;refine⟨?_,M.qt⟩;unfold QS
     simp_all
    have hb18:=h18;refine Qc 1 K M ?_;intro _ K;refine o1 K (QV rfl rfl (by omega) (by omega)) rfl fun _ K=>?_;refine Qc 1 K M ?_;intro _ K;refine Un ?_;refine Qc 2 K M ?_;intro _ K;refine Qj (K.QN rfl) (fun h7=>?_) (fun h7=>?_)
    ·have hb7:=h7;replace h7:=of_decide_eq_true h7
     exfalso;omega
    have hb7:=h7;replace h7:=of_decide_eq_false h7;refine JJ ?_;show W _ _ _ _ _ _ _;refine Qc 1 K M ?_;intro _ K;refine Qd ⟨.inr rfl,_,J7 K rfl,?_⟩;refine⟨?_,M.qt⟩;unfold QS
    simp_all
   have hb7:=h7;replace h7:=of_decide_eq_false h7
   exfalso;omega
  have hb7:=h7;replace h7:=of_decide_eq_false h7
  exfalso;omega
 have hb7:=h7;replace h7:=of_decide_eq_false h7
 exfalso;omega
end Go.Proofs.YtadjjadimlkkgaaGreatDoor
end
section
namespace Go.Proofs.YtadjjadimlkkgaaGreatDoor
open Go

theorem IJ{place:Nat→Option (Nat×Nat)}{i off:Nat}{v:AV}{ps:List (Nat×AV)}{l l1:List AV}(hp:place i=some (off,1))(hc:JD v=true)(ho:Xi [v] off l=some l1):WC place ((i,v)::ps) l=WC place ps l1:=by
 rw[Hd,hp,QC,Wo hc];show Jt true (ob (Xi [v] off l) _)=_;rw[ho];rfl
theorem E6{place:Nat→Option (Nat×Nat)}{i off n:Nat}{v:AV}{ps:List (Nat×AV)}{l l1:List AV}(hp:place i=some (off,n))(hn:Nat.beq (ZW (Ua v)) n=true)(ho:Xi (Ua v) off l=some l1):WC place ((i,v)::ps) l=WC place ps l1:=by
 rw[Hd,hp,QC];show Jt (Nat.beq (ZW (Ua v)) n) (ob (Xi (Ua v) off l) _)=_;rw[hn,ho];rfl
end Go.Proofs.YtadjjadimlkkgaaGreatDoor
end
