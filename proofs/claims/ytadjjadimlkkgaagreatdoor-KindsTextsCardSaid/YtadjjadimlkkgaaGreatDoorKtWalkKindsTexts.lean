/-
  KindsTexts: any text that is a program.
-/
import Derived.Test.YtadjjadimlkkgaaGreatDoorKtPgW
import Derived.Test.YtadjjadimlkkgaaGreatDoorKtKnR
set_option linter.unnecessarySimpa false
set_option linter.unusedSimpArgs false
set_option linter.unusedVariables false
section
namespace Go.Proofs.YtadjjadimlkkgaaGreatDoor
open Go Go.RowKit
set_option maxHeartbeats 8000000
set_option maxRecDepth 100000

theorem PM(st:St):Ev Tryz.prog Jg 13 [] st (.bool true) st:=⟨0,1,rfl⟩

theorem SR{ds:List Dc}{ps:List Pd}{o s:List Nat}{z a:Int}{l:List Nd}{st:St}{cs:List AV}(hf:Q3 st)(hr:qp st.h.get ⟨ds,ps,.mk o s z a l⟩ cs): ∃v st',Ev Tryz.prog Jg 10 [.agg cs] st v st'∧(∃b,v=.bool b∧(b=false→ds.length≤20∧ps.length≤10))∧Qt st st':=by
 have hr0:=hr;obtain⟨kd,ld,kp,lp,o,s,z,a,kk,rfl,hD,hP,hn⟩:=hr0;obtain⟨kx,ls,ex,hK,hb⟩:=hn.Ju
 injection ex with x1 x;injection x with x2 x;injection x with x3 x;injection x with x4 x;injection x with x5 x
 injection x1 with x1;injection x2 with x2;injection x3 with _ x3;injection x4 with _ x4
 subst x1 x2 x3 x4 x5;replace hD:Yo st.h.get ds kd ld:=hD;replace hP:EE st.h.get ps kp lp:=hP;replace hn:YW st.h.get (.mk o s z a l) _:=hn;have hbk:=hK.Yx;have hbd:=hD.Yx;have hbp:=hP.Yx;have hlp:=hP.ln;refine QG rfl Tryz.func10 rfl Tryz.ntmps10 rfl fun T hT=>?_;have K:Jk [(0,_)] T:=(.cons (hT 0) .nil);have M:=Mem.start hf;refine Qw<|Qi ?_;refine JL K M rfl (Qa hD.cell (Qa hP.cell (Qa rfl (Qa rfl (Qa rfl (Qa rfl (Qa hK.cell QE))))))) (by decide) fun c1 _ _ K M=>?_;refine Qc 3 K M ?_;intro _ K;refine o1 K (QP JR rfl rfl hD.len) rfl fun _ K=>o1 K (Lp rfl rfl) rfl fun _ K=>?_;refine oB K (Qb rfl) rfl fun b8 _ e8 K=>?_;cases b8
 · replace e8:=of_decide_eq_false e8;refine Qc 2 K M ?_;intro _ K;refine og K rfl rfl (QP Y3 rfl rfl hP.len) rfl fun _ K=>?_;refine Qc 2 K M ?_;intro _ K;refine oB K (Qb rfl) rfl fun b14 _ e14 K=>?_;cases b14
   · replace e14:=of_decide_eq_false e14;refine Qc 2 K M ?_;intro _ K;obtain⟨v17,st17,ev17,rfl,q17⟩:=Le M.fresh (hn.mono M.rows);refine og K rfl rfl (Qg rfl ev17) rfl fun _ K=>?_;replace M:=M.quiet q17;refine Qc 2 K M ?_;intro _ K;refine oB K (Qb rfl) rfl fun b20 _ e20 K=>?_;cases b20
     · replace e20:=of_decide_eq_false e20;refine Qc 2 K M ?_;intro _ K;obtain⟨v23,st23,ev23,rfl,q23⟩:=I6 M.fresh (hn.mono M.rows);refine og K rfl rfl (Qg rfl ev23) rfl fun _ K=>?_;replace M:=M.quiet q23;refine Qc 2 K M ?_;intro _ K;refine YX K rfl (fun h25=>?_) fun h25=>?_
       · refine Qc 1 K M ?_;intro _ K;refine Qd ⟨.inr rfl,_,J7 K rfl,?_⟩;refine⟨⟨_,rfl,fun h=>?_⟩,M.qt⟩
         first
          |(cases h;done)
          |(refine⟨?_,?_⟩<;>first|omega|(simp_all;done)|(simp_all;omega))
       refine Qc 1 K M ?_;intro _ K;refine JX (fun mm1 T st9=> ∃(i:Nat),mm1=ps.length-i∧Jk [(1,.ptr c1 0 0),(3,.int .i64 (((i:Nat):Int)))] T∧Mem st.h.get st.n [] st9 [(c1,0,[kd,kp,.str o,.str s,.int .i64 z,.int .i64 a,kk])]∧i≤ps.length) (fun mm1 T st9 hI=>?_) _ _ _ ⟨0,rfl,(.cons (K _ _ rfl) (.cons (K _ _ rfl) .nil)),M.less (.refl _),(Nat.zero_le _)⟩;obtain⟨i,rfl,K,M,hi⟩:=hI;refine Qc 3 K M ?_;intro _ K;refine o1 K (QP Y3 rfl rfl hP.len) rfl fun _ K=>?_;refine Qc 1 K M ?_;intro _ K;refine YX K rfl (fun h30=>?_) fun h30=>?_
       · refine Qc 3 K M ?_;intro _ K;obtain⟨⟨pn36,pp36,⟨_,_,_,_,l36⟩,pa36⟩,hi36⟩: ∃k,ps[i]? =some k:=⟨_,List.getElem?_eq_getElem (by omega)⟩;have hm36:=UI hi36;obtain⟨_,hc36,hP36⟩:=hP.at_ _ _ hi36;have hP360:=hP36;obtain⟨kd36,ld36,o36,s36,z36,a36,kk36,rfl,hD36,hn36,hy36⟩:=hP360;obtain⟨kx36,ls36,ex36,hK36,hb36⟩:=hn36.Ju
         injection ex36 with x1 x;injection x with x2 x;injection x with x3 x;injection x with x4 x;injection x with x5 x
         injection x1 with x1;injection x2 with x2;injection x3 with _ x3;injection x4 with _ x4
         subst x1 x2 x3 x4 x5;replace hD36:Yo st.h.get pp36 kd36 ld36:=hD36;replace hn36:YW st.h.get (.mk o36 s36 z36 a36 l36) _:=hn36;replace hy36:Bytes pn36:=hy36;have hl36:=hK36.Yx;have hd36:=hD36.Yx;obtain⟨x36,m36,f36,q36,_,la36,lo36,lp36⟩:=(hP.r.mem M (by simp)).load (i:=i) (cs:=_) hc36;refine o1 K (Qn (j:=i) Um (congrArg some q36) rfl (by rw[hP.ln];omega)) rfl fun _ K=>o1 K (Qf Za rfl) rfl fun _ K=>o1 K (Qq rfl (lo36 _ 1 _ Ut rfl)) rfl fun _ K=>o1 K (QP JR rfl rfl hD36.len) rfl fun _ K=>o1 K (Lp rfl rfl) rfl fun _ K=>?_;refine oB K (Qb rfl) rfl fun b41 _ e41 K=>?_;cases b41
         · replace e41:=of_decide_eq_false e41;refine Qc 3 K M ?_;intro _ K;obtain⟨⟨pn45,pp45,⟨_,_,_,_,l45⟩,pa45⟩,hi45⟩: ∃k,ps[i]? =some k:=⟨_,List.getElem?_eq_getElem (by omega)⟩;have hm45:=UI hi45;obtain⟨_,hc45,hP45⟩:=hP.at_ _ _ hi45;have hP450:=hP45;obtain⟨kd45,ld45,o45,s45,z45,a45,kk45,rfl,hD45,hn45,hy45⟩:=hP450;obtain⟨kx45,ls45,ex45,hK45,hb45⟩:=hn45.Ju
           injection ex45 with x1 x;injection x with x2 x;injection x with x3 x;injection x with x4 x;injection x with x5 x
           injection x1 with x1;injection x2 with x2;injection x3 with _ x3;injection x4 with _ x4
           subst x1 x2 x3 x4 x5;replace hD45:Yo st.h.get pp45 kd45 ld45:=hD45;replace hn45:YW st.h.get (.mk o45 s45 z45 a45 l45) _:=hn45;replace hy45:Bytes pn45:=hy45;have hl45:=hK45.Yx;have hd45:=hD45.Yx;obtain⟨x45,m45,f45,q45,_,la45,lo45,lp45⟩:=(hP.r.mem M (by simp)).load (i:=i) (cs:=_) hc45;refine og K rfl rfl (Qn (j:=i) Um (congrArg some q45) rfl (by rw[hP.ln];omega)) rfl fun _ K=>?_;refine Qc 1 K M ?_;intro _ K;refine og K rfl rfl (Qq rfl (lp45 _ 2 _ Q8 (by decide))) rfl fun _ K=>?_;obtain⟨v48,st48,ev48,rfl,q48⟩:=Le M.fresh (hn45.mono M.rows);refine og K rfl rfl (Qg rfl ev48) rfl fun _ K=>?_;replace M:=M.quiet q48;refine Qc 2 K M ?_;intro _ K;refine oB K (Qb rfl) rfl fun b51 _ e51 K=>?_;cases b51
           · replace e51:=of_decide_eq_false e51;refine Qc 3 K M ?_;intro _ K;obtain⟨⟨pn55,pp55,⟨_,_,_,_,l55⟩,pa55⟩,hi55⟩: ∃k,ps[i]? =some k:=⟨_,List.getElem?_eq_getElem (by omega)⟩;have hm55:=UI hi55;obtain⟨_,hc55,hP55⟩:=hP.at_ _ _ hi55;have hP550:=hP55;obtain⟨kd55,ld55,o55,s55,z55,a55,kk55,rfl,hD55,hn55,hy55⟩:=hP550;obtain⟨kx55,ls55,ex55,hK55,hb55⟩:=hn55.Ju
             injection ex55 with x1 x;injection x with x2 x;injection x with x3 x;injection x with x4 x;injection x with x5 x
             injection x1 with x1;injection x2 with x2;injection x3 with _ x3;injection x4 with _ x4
             subst x1 x2 x3 x4 x5;replace hD55:Yo st.h.get pp55 kd55 ld55:=hD55;replace hn55:YW st.h.get (.mk o55 s55 z55 a55 l55) _:=hn55;replace hy55:Bytes pn55:=hy55;have hl55:=hK55.Yx;have hd55:=hD55.Yx;obtain⟨x55,m55,f55,q55,_,la55,lo55,lp55⟩:=(hP.r.mem M (by simp)).load (i:=i) (cs:=_) hc55;refine og K rfl rfl (Qn (j:=i) Um (congrArg some q55) rfl (by rw[hP.ln];omega)) rfl fun _ K=>?_;refine Qc 1 K M ?_;intro _ K;refine og K rfl rfl (Qq rfl (lp55 _ 2 _ Q8 (by decide))) rfl fun _ K=>?_;obtain⟨v58,st58,ev58,rfl,q58⟩:=I6 M.fresh (hn55.mono M.rows);refine og K rfl rfl (Qg rfl ev58) rfl fun _ K=>?_;replace M:=M.quiet q58;refine Qc 2 K M ?_;intro _ K;refine YX K rfl (fun h60=>?_) fun h60=>?_
             ·refine Qc 1 K M ?_;intro _ K;refine Qd ⟨.inr rfl,_,J7 K rfl,?_⟩;refine⟨⟨_,rfl,fun h=>?_⟩,M.qt⟩
              first
               |(cases h;done)
               |(refine⟨?_,?_⟩<;>first|omega|(simp_all;done)|(simp_all;omega))
             refine Qc 1 K M ?_;intro _ K;refine o1 K (QV rfl rfl (by omega) (by omega)) rfl fun _ K=>o1 K (Qu rfl) rfl fun _ K=>Q5 ?_;exact⟨_,(by omega),i+1,rfl,(.cons (K _ _ rfl) (.cons (K _ _ rfl) .nil)),M.less (.refl _),(by omega)⟩
           replace e51:=of_decide_eq_true e51;refine Qc 9 K M ?_;intro _ K;refine Qj (t:=true) (K.QN rfl) (fun _=>?_) (fun h=>by cases h);refine Qc 1 K M ?_;intro _ K;refine Qd ⟨.inr rfl,_,J7 K rfl,?_⟩;refine⟨⟨_,rfl,fun h=>?_⟩,M.qt⟩
           first
            |(cases h;done)
            |(refine⟨?_,?_⟩<;>first|omega|(simp_all;done)|(simp_all;omega))
         replace e41:=of_decide_eq_true e41;refine Qc 19 K M ?_;intro _ K;refine Qj (t:=true) (K.QN rfl) (fun _=>?_) (fun h=>by cases h);refine Qc 1 K M ?_;intro _ K;refine Qd ⟨.inr rfl,_,J7 K rfl,?_⟩;refine⟨⟨_,rfl,fun h=>?_⟩,M.qt⟩
         first
          |(cases h;done)
          |(refine⟨?_,?_⟩<;>first|omega|(simp_all;done)|(simp_all;omega))
       refine JJ ?_;show W _ _ _ _ _ _ _;refine Qc 1 K M ?_;intro _ K;refine Qd ⟨.inr rfl,_,J7 K rfl,?_⟩;refine⟨⟨_,rfl,fun h=>?_⟩,M.qt⟩
       first
        |(cases h;done)
        |(refine⟨?_,?_⟩<;>first|omega|(simp_all;done)|(simp_all;omega))
     replace e20:=of_decide_eq_true e20;refine Qc 5 K M ?_;intro _ K;refine Qj (t:=true) (K.QN rfl) (fun _=>?_) (fun h=>by cases h);refine Qc 1 K M ?_;intro _ K;refine Qd ⟨.inr rfl,_,J7 K rfl,?_⟩;refine⟨⟨_,rfl,fun h=>?_⟩,M.qt⟩
     first
      |(cases h;done)
      |(refine⟨?_,?_⟩<;>first|omega|(simp_all;done)|(simp_all;omega))
   replace e14:=of_decide_eq_true e14;refine Qc 11 K M ?_;intro _ K;refine Qj (t:=true) (K.QN rfl) (fun _=>?_) (fun h=>by cases h);refine Qc 1 K M ?_;intro _ K;refine Qd ⟨.inr rfl,_,J7 K rfl,?_⟩;refine⟨⟨_,rfl,fun h=>?_⟩,M.qt⟩
   first
    |(cases h;done)
    |(refine⟨?_,?_⟩<;>first|omega|(simp_all;done)|(simp_all;omega))
 replace e8:=of_decide_eq_true e8;refine Qc 17 K M ?_;intro _ K;refine Qj (t:=true) (K.QN rfl) (fun _=>?_) (fun h=>by cases h);refine Qc 1 K M ?_;intro _ K;refine Qd ⟨.inr rfl,_,J7 K rfl,?_⟩;refine⟨⟨_,rfl,fun h=>?_⟩,M.qt⟩
 first
  |(cases h;done)
  |(refine⟨?_,?_⟩<;>first|omega|(simp_all;done)|(simp_all;omega))

theorem Nu{st:St}(hf:Q3 st)(l:List Nat)(hB:Bytes l)(hl:l.length≤140737488351232): ∃v st',Ev Tryz.prog Jg 3 [.str l] st v st'∧v=.bool true:=by
 refine QG rfl Tryz.func3 rfl Tryz.ntmps3 rfl fun T hT=>?_;have K:Jk [(0,_)] T:=(.cons (hT 0) .nil);have M:=Mem.start hf;refine Qc 2 K M ?_;intro _ K;obtain⟨v12,st12,ev12,cs12,rfl,⟨A12,hS12,hW12⟩,q12⟩:=S5 M.fresh l hB hl;refine o1 K (Qg rfl ev12) rfl fun _ K=>?_;replace M:=M.qg q12 hS12;have hgB12:=MB l;generalize hg12:(Yl l).1=g12 at hW12 hgB12;obtain⟨ds12,ps12,⟨om12,sm12,zm12,am12,lm12⟩⟩:=g12;have hw12:=hW12;obtain⟨kd12,kp12,oP12,sP12,zP12,aP12,kk12,lsp12,rfl,⟨Ad12,hxd12,nd12,hAd12⟩,⟨Ap12,hxp12,np12,hAp12⟩,hlp12,hPA12,hN12⟩:=hw12;simp only[List.append_assoc,List.cons_append,List.nil_append,List.set_cons_zero,List.set_cons_succ]at M;refine au 5 K M ?_;intro c3 _ _ K _ M;refine J5 (k:=0) K M rfl rfl rfl Y5 rfl (Qa hAd12.cell (Qa hAp12.cell (Qa rfl (Qa rfl (Qa rfl (Qa rfl (Qa hN12.Ud QE))))))) rfl fun _ M=>?_;refine Qc 3 K M ?_;intro _ K;refine o1 K (XU UY rfl rfl) rfl fun _ K=>o1 K (Lp rfl rfl) rfl fun _ K=>?_;refine oB K (Qb rfl) rfl fun b19 _ e19 K=>?_;cases b19
 · replace e19:=of_decide_eq_false e19;refine Qc 3 K M ?_;intro _ K;refine oB K (Qb rfl) rfl fun b23 _ e23 K=>?_;cases b23
   · replace e23:((Yl l).2.2=0):=by simpa using e23
     refine Qc 1 K M ?_;intro _ K;obtain⟨v25,st25,ev25,⟨b25,rfl,hb25⟩,q25⟩:=SR M.fresh (hW12.toR (M.jM (Mh _) (fun x hx=>by simp[hx])) hgB12);refine og K rfl rfl (Qg rfl ev25) rfl fun _ K=>?_;replace M:=M.quiet q25;refine Qc 1 K M ?_;intro _ K;refine Qj (K.QN rfl) (fun h26=>?_) (fun h26=>?_)
     · have hb26:=h26;refine Qc 1 K M ?_;intro _ K;refine Qd ⟨.inr rfl,_,J7 K rfl,?_⟩
       first
        |rfl
        |(simp_all;done)
        |(exfalso;simp_all;done)
        |(exfalso;simp_all;omega)
     have hb26:=h26;refine Qc 1 K M ?_;intro _ K;obtain⟨hds29,hps29⟩:ds12.length≤20∧ps12.length≤10:=hb25 (by simp_all);refine oQ K M (PT M.fresh (hW12.toR (M.jM (Mh _) (fun x hx=>by simp[hx])) hgB12) (by omega) (by omega)) rfl rfl fun _ _ K M=>?_;refine Qc 6 K M ?_;intro _ K;obtain⟨hds34,hps34⟩:ds12.length≤20∧ps12.length≤10:=hb25 (by simp_all);refine oQ K M (Py M.fresh (hW12.toR (M.jM (Mh _) (fun x hx=>by simp[hx])) hgB12) (by omega) (by omega)) rfl rfl fun _ _ K M=>?_;refine Qc 8 K M ?_;intro _ K;refine oB K (Qb rfl) rfl fun b40 _ e40 K=>?_;cases b40
     · replace e40:=of_decide_eq_false e40;refine Qc 8 K M ?_;intro _ K;refine Qd ⟨.inr rfl,_,J7 K rfl,?_⟩
       first
        |rfl
        |(simp_all;done)
        |(exfalso;simp_all;done)
        |(exfalso;simp_all;omega)
     replace e40:=of_decide_eq_true e40;refine Qc 4 K M ?_;intro _ K;refine oB K (Qb rfl) rfl fun b45 _ e45 K=>?_;cases b45
     · replace e45:=of_decide_eq_false e45;refine Qc 3 K M ?_;intro _ K;refine Qd ⟨.inr rfl,_,J7 K rfl,?_⟩
       first
        |rfl
        |(simp_all;done)
        |(exfalso;simp_all;done)
        |(exfalso;simp_all;omega)
     replace e45:=of_decide_eq_true e45;have ev46:=PM;refine og K rfl rfl (Qg rfl (ev46 _)) rfl fun _ K=>?_;refine Qc 2 K M ?_;intro _ K;refine Qd ⟨.inr rfl,_,J7 K rfl,?_⟩
     first
      |rfl
      |(simp_all;done)
      |(exfalso;simp_all;done)
      |(exfalso;simp_all;omega)
   replace e23: ¬((Yl l).2.2=0):=by simpa using e23
   refine Qc 3 K M ?_;intro _ K;refine Qj (t:=true) (K.QN rfl) (fun _=>?_) (fun h=>by cases h);refine Qc 1 K M ?_;intro _ K;refine Qd ⟨.inr rfl,_,J7 K rfl,?_⟩
   first
    |rfl
    |(simp_all;done)
    |(exfalso;simp_all;done)
    |(exfalso;simp_all;omega)
 replace e19:=of_decide_eq_true e19;refine Qc 7 K M ?_;intro _ K;refine Qj (t:=true) (K.QN rfl) (fun _=>?_) (fun h=>by cases h);refine Qc 1 K M ?_;intro _ K;refine Qd ⟨.inr rfl,_,J7 K rfl,?_⟩
 first
  |rfl
  |(simp_all;done)
  |(exfalso;simp_all;done)
  |(exfalso;simp_all;omega)
end Go.Proofs.YtadjjadimlkkgaaGreatDoor
end
section
namespace Go.Proofs.YtadjjadimlkkgaaGreatDoor
open Go Go.RowKit

theorem Cf(s:ByteArray):(Yu s).length=s.size:=by rw[←JC,Zl]
theorem Kr(s:ByteArray)(W:World)(hz:s.size≤140737488351232)(hT:Kv W):
  Calls Tryz.prog 3 #[.string s] W fun e w'=>e=.returned (.bool true)∧Below W.heap.size W w':=by
 have:=PD (G:=Jg) (fun _=>rfl) MZ mixed (f:=3) (args:=[.str (Yu s)]) (ml:=[]) Ox.nil ⟨Vc s,trivial⟩
  (Nu (ND []) (Yu s) (Vc s) (by rw[Cf];exact hz)) hT
 rw[show Q4 (qO []) [.str (Yu s)]=[.string s] by show [Value.string (bytesOf (Yu s))]=_;rw[Zl]]at this;exact this
end Go.Proofs.YtadjjadimlkkgaaGreatDoor
end
