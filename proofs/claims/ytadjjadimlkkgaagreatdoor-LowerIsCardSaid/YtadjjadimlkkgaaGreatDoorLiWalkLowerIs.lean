/-
  LowerIs: what is lowered is a core formula of as many variables.
-/
import Derived.Test.YtadjjadimlkkgaaGreatDoorLiLwG
import Derived.Test.YtadjjadimlkkgaaGreatDoorLiLwR
set_option linter.unnecessarySimpa false
set_option linter.unusedSectionVars false
set_option linter.unusedSimpArgs false
set_option linter.unusedVariables false
section
namespace Go.Proofs.YtadjjadimlkkgaaGreatDoor
open Go Go.RowKit
set_option maxHeartbeats 8000000
set_option maxRecDepth 100000

theorem ZD(st:St):Ev Tryz.prog QT 25 [] st (.bool true) st:=⟨0,1,rfl⟩

theorem BL{st:St}(hf:Qx st){ds:List Dc}{kd:AV}{ld:List (List AV)}(hD:Y8 st.h.get ds kd ld){o s:List Nat}{z a:Int}{l:List Nd}{cs:List AV}(hr:Yq st.h.get (.mk o s z a l) cs): ∃v st',Ev Tryz.prog QT 6 [kd,.agg cs] st v st'∧v=.bool true:=by
 have hr0:=hr;obtain⟨kk,ls,rfl,hK,hb⟩:=hr.Jl;have hln:=hD.ln;have hbn:=hD.UK;have hlk:=hK.ln;have hbk:=hK.UK;refine Q6 rfl Tryz.func6 rfl Tryz.ntmps6 rfl fun T hT=>?_;have K:Jf [(0,_),(1,_)] T:=(.cons (hT 0) (.cons (hT 1) .nil));have M:=Mem.start hf;refine Qo<|Qb ?_;refine QM K M rfl (Qa rfl (Qa rfl (Qa rfl (Qa rfl (Qa hK.cell Qy))))) (by decide) fun c3 _ _ K M=>?_;refine Qg 2 K M ?_;intro _ K;refine o1 K (QF JL rfl rfl hD.len) rfl fun _ K=>o1 K (BG rfl rfl) rfl fun _ K=>?_;refine oB K (Qc rfl) rfl fun b10 _ e10 K=>?_;cases b10
 · replace e10:=of_decide_eq_false e10;refine Qg 1 K M ?_;intro _ K;obtain⟨v12,st12,ev12,rfl,q12⟩:=RU M.fresh (hr0.mono M.rows);refine og K rfl rfl (Ql rfl ev12) rfl fun _ K=>?_;replace M:=M.quiet q12;refine Qg 2 K M ?_;intro _ K;refine oB K (Qc rfl) rfl fun b15 _ e15 K=>?_;cases b15
   · replace e15:=of_decide_eq_false e15;refine Qg 1 K M ?_;intro _ K;obtain⟨v17,st17,ev17,rfl,q17⟩:=DL M.fresh (hr0.mono M.rows);refine og K rfl rfl (Ql rfl ev17) rfl fun _ K=>?_;replace M:=M.quiet q17;refine Qg 2 K M ?_;intro _ K;refine YI K rfl (fun h19=>?_) fun h19=>?_
     · refine Qg 1 K M ?_;intro _ K;refine Qf ⟨.inr rfl,_,J4 K rfl,?_⟩
       first
        |rfl
        |(simp_all;done)
        |(exfalso;simp_all;done)
        |(exfalso;simp_all;omega)
        |(exfalso;omega)
     refine Qg 2 K M ?_;intro _ K;obtain⟨v23,st23,ev23,⟨_,rfl,on23,an23,bn23,cn23,nn23,kkn23,A23,rfl,hS23,hN23⟩,q23⟩:=S5 M.fresh (Y8.mono M.rows hD) (hr0.mono M.rows) (by omega);refine o1 K (Ql rfl ev23) rfl fun _ K=>?_;replace M:=M.U0 q23 hS23;have her:=Pb ds (.mk o s z a l);replace M:=Mem.cast (M':=((c3,0,[.str o,.str s,.int .i64 z,.int .i64 a,kk])::(A23++[]))) M (by first|(simp only[List.append_assoc,List.cons_append,List.nil_append,List.append_nil,List.set_cons_zero,List.set_cons_succ];done)|(simp only[List.append_assoc,List.cons_append,List.nil_append,List.append_nil,List.set_cons_zero,List.set_cons_succ];rfl));refine au 4 K M ?_;intro c5 _ _ K _ M;refine QI (k:=0) K M rfl rfl rfl Q3 rfl (Qa rfl (Qa rfl (Qa rfl (Qa rfl (Qa rfl (Qa hN23.JE Qy)))))) rfl fun _ M=>?_;refine Qg 3 K M ?_;intro _ K;refine oB K (Qc rfl) rfl fun b28 _ e28 K=>?_;cases b28
     · replace e28:((JT ds (.mk o s z a l)).2=0):=by simpa using e28
       refine Qg 2 K M ?_;intro _ K;refine og K rfl rfl (QF JL rfl rfl hD.len) rfl fun _ K=>?_
       have he0:(JT ds (.mk o s z a l)).2=0:=by first|assumption|(simp_all;done)
       obtain⟨i1,i2,i3⟩:=S0 he0;obtain⟨lc,lsc,hcs,hKc⟩:=hN23.shape;rw[hcs]at hN23 i2 i3;obtain⟨v32,st32,ev32,rfl,q32⟩:=M6 (R:=Jt R0 A23) M.fresh (M.yj (Ma _) (fun x hx=>by simp[hx])) hN23 ((ds.length:Nat):Int) (by omega) (by omega) i2 i3;refine og K rfl rfl (Ql rfl ev32) rfl fun _ K=>?_;replace M:=M.quiet q32;refine Qg 4 K M ?_;intro _ K;refine yE K rfl rfl (Qc rfl) rfl fun b37 _ e37 K=>?_;cases b37
       · replace e37:=of_decide_eq_false e37;refine Qg 3 K M ?_;intro _ K;refine yE K rfl rfl (Qc rfl) rfl fun b41 _ e41 K=>?_;cases b41
         · replace e41:=of_decide_eq_false e41;refine Qg 4 K M ?_;intro _ K;refine oB K (Qc rfl) rfl fun b46 _ e46 K=>?_;cases b46
           · replace e46:=of_decide_eq_false e46;refine Qg 3 K M ?_;intro _ K;refine Qf ⟨.inr rfl,_,J4 K rfl,?_⟩
             first
              |rfl
              |(simp_all;done)
              |(exfalso;simp_all;done)
              |(exfalso;simp_all;omega)
              |(exfalso;omega)
           replace e46:=of_decide_eq_true e46;have ev47:=ZD;refine og K rfl rfl (Ql rfl (ev47 _)) rfl fun _ K=>?_;refine Qg 2 K M ?_;intro _ K;refine Qf ⟨.inr rfl,_,J4 K rfl,?_⟩
           first
            |rfl
            |(simp_all;done)
            |(exfalso;simp_all;done)
            |(exfalso;simp_all;omega)
            |(exfalso;omega)
         replace e41:=of_decide_eq_true e41;refine Qg 5 K M ?_;intro _ K;have ev47:=ZD;refine og K rfl rfl (Ql rfl (ev47 _)) rfl fun _ K=>?_;refine Qg 2 K M ?_;intro _ K;refine Qf ⟨.inr rfl,_,J4 K rfl,?_⟩
         first
          |rfl
          |(simp_all;done)
          |(exfalso;simp_all;done)
          |(exfalso;simp_all;omega)
          |(exfalso;omega)
       replace e37:=of_decide_eq_true e37;refine Qg 9 K M ?_;intro _ K;have ev47:=ZD;refine og K rfl rfl (Ql rfl (ev47 _)) rfl fun _ K=>?_;refine Qg 2 K M ?_;intro _ K;refine Qf ⟨.inr rfl,_,J4 K rfl,?_⟩
       first
        |rfl
        |(simp_all;done)
        |(exfalso;simp_all;done)
        |(exfalso;simp_all;omega)
        |(exfalso;omega)
     replace e28: ¬((JT ds (.mk o s z a l)).2=0):=by simpa using e28
     refine Qg 8 K M ?_;intro _ K;refine yE K rfl rfl (Qc rfl) rfl fun b37 _ e37 K=>?_;cases b37
     · replace e37:=of_decide_eq_false e37;refine Qg 3 K M ?_;intro _ K;refine yE K rfl rfl (Qc rfl) rfl fun b41 _ e41 K=>?_;cases b41
       · replace e41:=of_decide_eq_false e41;refine Qg 4 K M ?_;intro _ K;refine oB K (Qc rfl) rfl fun b46 _ e46 K=>?_;cases b46
         · replace e46:=of_decide_eq_false e46;refine Qg 3 K M ?_;intro _ K;refine Qf ⟨.inr rfl,_,J4 K rfl,?_⟩
           first
            |rfl
            |(simp_all;done)
            |(exfalso;simp_all;done)
            |(exfalso;simp_all;omega)
            |(exfalso;omega)
         replace e46:=of_decide_eq_true e46;have ev47:=ZD;refine og K rfl rfl (Ql rfl (ev47 _)) rfl fun _ K=>?_;refine Qg 2 K M ?_;intro _ K;refine Qf ⟨.inr rfl,_,J4 K rfl,?_⟩
         first
          |rfl
          |(simp_all;done)
          |(exfalso;simp_all;done)
          |(exfalso;simp_all;omega)
          |(exfalso;omega)
       replace e41:=of_decide_eq_true e41;refine Qg 5 K M ?_;intro _ K;have ev47:=ZD;refine og K rfl rfl (Ql rfl (ev47 _)) rfl fun _ K=>?_;refine Qg 2 K M ?_;intro _ K;refine Qf ⟨.inr rfl,_,J4 K rfl,?_⟩
       first
        |rfl
        |(simp_all;done)
        |(exfalso;simp_all;done)
        |(exfalso;simp_all;omega)
        |(exfalso;omega)
     replace e37:=of_decide_eq_true e37;refine Qg 9 K M ?_;intro _ K;have ev47:=ZD;refine og K rfl rfl (Ql rfl (ev47 _)) rfl fun _ K=>?_;refine Qg 2 K M ?_;intro _ K;refine Qf ⟨.inr rfl,_,J4 K rfl,?_⟩
     first
      |rfl
      |(simp_all;done)
      |(exfalso;simp_all;done)
      |(exfalso;simp_all;omega)
      |(exfalso;omega)
   replace e15:=of_decide_eq_true e15;refine Qg 4 K M ?_;intro _ K;refine Qs (t:=true) (K.QB rfl) (fun _=>?_) (fun h=>by cases h);refine Qg 1 K M ?_;intro _ K;refine Qf ⟨.inr rfl,_,J4 K rfl,?_⟩
   first
    |rfl
    |(simp_all;done)
    |(exfalso;simp_all;done)
    |(exfalso;simp_all;omega)
    |(exfalso;omega)
 replace e10:=of_decide_eq_true e10;refine Qg 9 K M ?_;intro _ K;refine Qs (t:=true) (K.QB rfl) (fun _=>?_) (fun h=>by cases h);refine Qg 1 K M ?_;intro _ K;refine Qf ⟨.inr rfl,_,J4 K rfl,?_⟩
 first
  |rfl
  |(simp_all;done)
  |(exfalso;simp_all;done)
  |(exfalso;simp_all;omega)
  |(exfalso;omega)
end Go.Proofs.YtadjjadimlkkgaaGreatDoor
end
section
namespace Go.Proofs.YtadjjadimlkkgaaGreatDoor
open Go Go.RowKit

theorem OW:Ir Tryz.prog [22,102,9,3]=true:=by kernel_rfl
theorem Gr{H:Type}{enc:TypeId×Value→H}{W:World}{ml:FD}(hM:Zz W ml){v:Value}{d:DataW H}{p:List MemPlace}(h:DataW.Trod enc Tryz.prog W 0 (fun _=>true) true 22 v d p)(hna: ∀cs,v≠ .agg cs):
  ∃ml' ks l ls,ml<+:ml'∧Zz W ml'∧Y8 (E5 ml') l ks ls∧WF (E5 ml') ks∧Qd (Iu ml') ks=v:=by
 obtain⟨fuel,h⟩:=h;obtain⟨ml',cs,h1,h2,h3,h4,h5,h6⟩:=lift _ OW fuel 22 _ d p ml (by simp) h hM;obtain⟨ks,l,ls,rfl,hr⟩:=DG h6;refine⟨ml',ks,l,ls,h1,h2,hr,?_,?_⟩
 ·first|exact h4.1|exact h4|simpa [WF,Yc]using h4
 ·obtain⟨e1,e2⟩:=EC h3 h5;obtain⟨a,e,h⟩:=e2 hna
  injection e with e
  rw[e];exact h
theorem Nl{H:Type}{enc:TypeId×Value→H}{W:World}{v0 v1:Value}{d0 d1:DataW H}{p0 p1:List MemPlace}(h0:DataW.Trod enc Tryz.prog W 0 (fun _=>true) true 22 v0 d0 p0)(n0: ∀cs,v0≠ .agg cs)(h1:DataW.Trod enc Tryz.prog W 0 (fun _=>true) true 26 v1 d1 p1)(hT:Hs W):
  Calls Tryz.prog 6 #[v0,v1] W fun e w'=>e=.returned (.bool true)∧Below W.heap.size W w':=by
 obtain⟨ml1,ks,ds,ld,_,hM1,hD,hw,hc⟩:=Gr Zz.nil h0 n0;obtain⟨ml2,ct,k',hp,hM2,hk',hw',hc'⟩:=P2 hM1 h1;have hD2:=hD.mono (Hw hp);have hw2:=WF.grow (AG hp) _ hw;have e:=T0 hp hw;rw[hc]at e;obtain⟨o,s,z,a,l⟩:=k'
 have:=DX (G:=QT) (fun _=>rfl) qc mixed (f:=6) (args:=[ks,.agg ct]) hM2 ⟨hw2,hw',trivial⟩
  (BL (Lj ml2) (by rw[Av];exact hD2) (by rw[Av];exact hk')) hT
 rw[show Qp (Iu ml2) [ks,.agg ct]=[v0,v1] by rw[←e,←hc'];rfl]at this;exact this
end Go.Proofs.YtadjjadimlkkgaaGreatDoor
end
