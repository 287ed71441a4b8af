/-
  Core formulas that may be: the program says so.
-/
import Derived.Test.YtiknomepbklibaaGreatDoorFzCor
namespace Go.Proofs.YtiknomepbklibaaGreatDoor
open Go Go.RowKit
set_option maxHeartbeats 8000000
set_option linter.unusedVariables false
set_option linter.unusedSimpArgs false
set_option linter.unnecessarySimpa false
set_option linter.unusedSectionVars false
set_option maxRecDepth 100000
variable {b g n:Int} {cs:List AV} {l:List Cr} {o:List Nat}

abbrev Lm(x:List Nat):AV:=.str x
theorem yB:Tryz.prog.underlying 166=some (.map 9 164):=by kernel_rfl
theorem yG:Tryz.prog.underlying 168=some (.array 3 3):=by kernel_rfl
theorem xe:Wh Tryz.prog 168=some (3,3):=by kernel_rfl
abbrev sh(v:Int)(b:Bool)(k:Int):AV:=.agg [.int .i64 v,.bool b,.int .i64 k]
theorem Y5:VE Tryz.prog 166 Lm (sh 0 false 0):=⟨9,164,.string,yB,Wr,by kernel_rfl,fun a=>rfl,fun a i=>rfl,fun a b v n es i=>by
 have e:Yv Tryz.prog 9 .string (Lm a) ((Lm b,v,n)::es) i=Qo (Gk a b) (some (some (i,v))) (Yv Tryz.prog 9 .string (Lm a) es (i+1)):=by
  refine(Vz .string (Lm a) (Lm b,v,n) es i).trans ?_;show ob (some (Gk a b)) _=_;rw[Ql];rfl
 rw[e,ZT]
 exact⟨fun h=>by rw[decide_eq_true h];rfl,fun h=>by rw[decide_eq_false h];rfl⟩⟩
section
variable {α:Type} {key:α→AV} {P:Program} {G:Env} {N:Nat} {st0 st:St} {X0:Fp} {M:QU} {Os:List Ob} {T:Tr AV} {ops rest:List Oper} {K:List (Nat×AV)} {R:Tr AV→St→Prop} {t ty:TypeId} {pos:String} {af:Array Edge} {z:AV} {vl:List AV} {cm j:Nat} {L:List (α×AV)} {a:α} {m k x:Operand}
theorem zn(Tk:VE P t key z){n:Nat}{es:List (AV×AV×Nat)}(hc:st.h.get cm=some (.map es n))(he:NM key es L)(hm:QX G K m=some (.mp cm))(hk:QX G K k=some (key a))(hx:QX G K x=some (.agg vl))(hn:Yk L a=none):
  U3 P G K (.insert t m k x) st (.tup []) (EP st cm n es (key a) (.agg vl)):=.of fun T' hT c d ty pos af g=>by
 obtain⟨kt,et,d',u1,u2,u3,u4,u5,u6⟩:=Tk.rule;show(ob (QI G T' m) fun m=>ob (QI G T' k) fun k=>ob (QI G T' x) fun x=>Zv P t m k x st)=_;rw[hT.QI hm,hT.QI hk,hT.QI hx,Ql,Ql,Ql];unfold Zv EP;obtain⟨f1,f2⟩:=VE.find (P:=P) (t:=t) (z:=z) (et:=et) u5 u6 a L es 0 he;simp only[u1,u2,u4,QO,hc,Ql,f1 hn,Bool.or_true,JX,U6,Jg,UJ]
theorem YF(hK:QY K T)(B:Qk st0 X0 st M Os)(hj:Os[j]? =some (VY cm key L))(Tk:VE P t key z)(hm:QX G K m=some (.mp cm))(hk:QX G K k=some (key a))(hx:QX G K x=some (.agg vl))(hn:Yk L a=none)
  (hr: ∀st',Qk st0 X0 st' M (Os.set j (VY cm key (L++[(a,.agg vl)])))→WR P G N ops rest R T st'):WR P G N ops (⟨none,.insert t m k x,ty,pos,af,none⟩::rest) R T st:=by
 obtain⟨es,n,hc,he⟩:=B.at_ hj;exact RH hK (zn Tk hc he hm hk hx hn) (hr _ (B.Bm hj hc he a (.agg vl)))
end
def WO:List (List Nat×AV):=[([116,114,117,101],sh 0 false 0),([115,117,98],sh 2 false 0),([115,105,110,103],sh 1 false 0),([102,108,97,103],sh 1 false 0),([110,111,110,101],sh 1 false 0),([108,101,115,115],sh 2 false 0),([112,108,117,115],sh 2 true 0),([110,117,109],sh 1 true 0),([117,110,105,111,110],sh 3 false 0),([105,110,116,101,114],sh 3 false 0),([109,105,110,117,115],sh 3 false 0),([110,111,116],sh 0 false 1),([97,110,100],sh 0 false 2),([101,120],sh 1 false 1)]
def US(a b g:Int)(i:Nat):Int:=if i=0 then a else if i=1 then b else g
theorem wo(a b g:Int){i:Nat}(h:i<3):([AV.int .i64 a,.int .i64 b,.int .i64 g]:List AV)[i]? =some (.int .i64 (US a b g i)):=by
 match i,h with
 |0,_=>rfl
 |1,_=>rfl
 |2,_=>rfl
theorem TJ{G:Env}{K:List (Nat×AV)}{st:St}{x i:Operand}{l:List AV}{j:Nat}{v:AV}(hx:QX G K x=some (.agg l))(hi:QX G K i=some (.int .i64 (j:Nat)))(hj:j<3)(hv:l[j]? =some v):U3 Tryz.prog G K (.index 168 x i) st v st:=.of fun T hT cc d ty pos af g=>by
 show ret (ob (QI G T x) fun x=>ob (QI G T i) fun i=>F5 Tryz.prog 168 x i) st=_;rw[hT.QI hx,hT.QI hi,Ql,Ql];unfold F5;show ret (ob (Wh Tryz.prog 168) fun q=>ob (NR ((j:Nat):Int)) fun i=>QN (Nat.ble (i+1) q.1) (XT Tryz.prog q.2 l (i *Tryz.prog.cellsOf q.2))) st=_;rw[xe,Ql,show NR ((j:Nat):Int)=some j from rfl,Ql,ZU,Nat.mul_one,show Nat.ble (j+1) 3=true from Nat.ble_eq_true_of_le hj,QO];unfold XT;rw[Qr];show ret (nth l j) st=_;rw[U7,hv];rfl
theorem C3{a m:Int}(h:Jm (.mk o a b g n l) m=true): ∃vn bn kn,Yk WO o=some (sh vn bn kn)∧0≤vn∧vn≤3∧((l.length:Nat):Int)=kn∧0≤n∧n<21∧(bn=false→n=0)∧(∀i:Nat,i<3→(vn≤i→US a b g i=0)∧((i:Int)<vn→o≠[101,120]→0≤US a b g i∧US a b g i<m))∧(o=[101,120]→a=m∧m<6):=by
 have hi: ∀{P:Nat→Prop},P 0→P 1→P 2→ ∀i,i<3→P i:=fun h0 h1 h2 i hi=>by
  match i,hi with
  |0,_=>exact h0
  |1,_=>exact h1
  |2,_=>exact h2
 rw[Jm]at h;simp only[Bool.and_eq_true,decide_eq_true_eq]at h;obtain⟨h1,h2,h3,h4⟩:=h
 by_cases e0:o=[116,114,117,101]
 ·subst e0;have h2:((l.length:Nat):Int)=0:=h2.trans QE;simp[Ue,Uj]at h3 h4;exact⟨0,false,0,by simp[Yk,WO],by omega,by omega,h2,by omega,by omega,(fun hb=>by first|omega|cases hb),hi ⟨(fun h=>by simp only[US];first|omega|simp_all),(fun h e=>by simp only[US];first|omega|(simp at e;done)|simp_all)⟩ ⟨(fun h=>by simp only[US];first|omega|simp_all),(fun h e=>by simp only[US];first|omega|(simp at e;done)|simp_all)⟩ ⟨(fun h=>by simp only[US];first|omega|simp_all),(fun h e=>by simp only[US];first|omega|(simp at e;done)|simp_all)⟩,fun e=>by first|(simp at e;done)|omega|simp_all⟩
 by_cases e1:o=[115,117,98]
 ·subst e1;have h2:((l.length:Nat):Int)=0:=h2.trans QE;simp[Ue,Uj]at h3 h4;exact⟨2,false,0,by simp[Yk,WO],by omega,by omega,h2,by omega,by omega,(fun hb=>by first|omega|cases hb),hi ⟨(fun h=>by simp only[US];first|omega|simp_all),(fun h e=>by simp only[US];first|omega|(simp at e;done)|simp_all)⟩ ⟨(fun h=>by simp only[US];first|omega|simp_all),(fun h e=>by simp only[US];first|omega|(simp at e;done)|simp_all)⟩ ⟨(fun h=>by simp only[US];first|omega|simp_all),(fun h e=>by simp only[US];first|omega|(simp at e;done)|simp_all)⟩,fun e=>by first|(simp at e;done)|omega|simp_all⟩
 by_cases e2:o=[115,105,110,103]
 ·subst e2;have h2:((l.length:Nat):Int)=0:=h2.trans QE;simp[Ue,Uj]at h3 h4;exact⟨1,false,0,by simp[Yk,WO],by omega,by omega,h2,by omega,by omega,(fun hb=>by first|omega|cases hb),hi ⟨(fun h=>by simp only[US];first|omega|simp_all),(fun h e=>by simp only[US];first|omega|(simp at e;done)|simp_all)⟩ ⟨(fun h=>by simp only[US];first|omega|simp_all),(fun h e=>by simp only[US];first|omega|(simp at e;done)|simp_all)⟩ ⟨(fun h=>by simp only[US];first|omega|simp_all),(fun h e=>by simp only[US];first|omega|(simp at e;done)|simp_all)⟩,fun e=>by first|(simp at e;done)|omega|simp_all⟩
 by_cases e3:o=[102,108,97,103]
 ·subst e3;have h2:((l.length:Nat):Int)=0:=h2.trans QE;simp[Ue,Uj]at h3 h4;exact⟨1,false,0,by simp[Yk,WO],by omega,by omega,h2,by omega,by omega,(fun hb=>by first|omega|cases hb),hi ⟨(fun h=>by simp only[US];first|omega|simp_all),(fun h e=>by simp only[US];first|omega|(simp at e;done)|simp_all)⟩ ⟨(fun h=>by simp only[US];first|omega|simp_all),(fun h e=>by simp only[US];first|omega|(simp at e;done)|simp_all)⟩ ⟨(fun h=>by simp only[US];first|omega|simp_all),(fun h e=>by simp only[US];first|omega|(simp at e;done)|simp_all)⟩,fun e=>by first|(simp at e;done)|omega|simp_all⟩
 by_cases e4:o=[110,111,110,101]
 ·subst e4;have h2:((l.length:Nat):Int)=0:=h2.trans QE;simp[Ue,Uj]at h3 h4;exact⟨1,false,0,by simp[Yk,WO],by omega,by omega,h2,by omega,by omega,(fun hb=>by first|omega|cases hb),hi ⟨(fun h=>by simp only[US];first|omega|simp_all),(fun h e=>by simp only[US];first|omega|(simp at e;done)|simp_all)⟩ ⟨(fun h=>by simp only[US];first|omega|simp_all),(fun h e=>by simp only[US];first|omega|(simp at e;done)|simp_all)⟩ ⟨(fun h=>by simp only[US];first|omega|simp_all),(fun h e=>by simp only[US];first|omega|(simp at e;done)|simp_all)⟩,fun e=>by first|(simp at e;done)|omega|simp_all⟩
 by_cases e5:o=[108,101,115,115]
 ·subst e5;have h2:((l.length:Nat):Int)=0:=h2.trans QE;simp[Ue,Uj]at h3 h4;exact⟨2,false,0,by simp[Yk,WO],by omega,by omega,h2,by omega,by omega,(fun hb=>by first|omega|cases hb),hi ⟨(fun h=>by simp only[US];first|omega|simp_all),(fun h e=>by simp only[US];first|omega|(simp at e;done)|simp_all)⟩ ⟨(fun h=>by simp only[US];first|omega|simp_all),(fun h e=>by simp only[US];first|omega|(simp at e;done)|simp_all)⟩ ⟨(fun h=>by simp only[US];first|omega|simp_all),(fun h e=>by simp only[US];first|omega|(simp at e;done)|simp_all)⟩,fun e=>by first|(simp at e;done)|omega|simp_all⟩
 by_cases e6:o=[112,108,117,115]
 ·subst e6;have h2:((l.length:Nat):Int)=0:=h2.trans QE;simp[Ue,Uj]at h3 h4;exact⟨2,true,0,by simp[Yk,WO],by omega,by omega,h2,by omega,by omega,(fun hb=>by first|omega|cases hb),hi ⟨(fun h=>by simp only[US];first|omega|simp_all),(fun h e=>by simp only[US];first|omega|(simp at e;done)|simp_all)⟩ ⟨(fun h=>by simp only[US];first|omega|simp_all),(fun h e=>by simp only[US];first|omega|(simp at e;done)|simp_all)⟩ ⟨(fun h=>by simp only[US];first|omega|simp_all),(fun h e=>by simp only[US];first|omega|(simp at e;done)|simp_all)⟩,fun e=>by first|(simp at e;done)|omega|simp_all⟩
 by_cases e7:o=[110,117,109]
 ·subst e7;have h2:((l.length:Nat):Int)=0:=h2.trans QE;simp[Ue,Uj]at h3 h4;exact⟨1,true,0,by simp[Yk,WO],by omega,by omega,h2,by omega,by omega,(fun hb=>by first|omega|cases hb),hi ⟨(fun h=>by simp only[US];first|omega|simp_all),(fun h e=>by simp only[US];first|omega|(simp at e;done)|simp_all)⟩ ⟨(fun h=>by simp only[US];first|omega|simp_all),(fun h e=>by simp only[US];first|omega|(simp at e;done)|simp_all)⟩ ⟨(fun h=>by simp only[US];first|omega|simp_all),(fun h e=>by simp only[US];first|omega|(simp at e;done)|simp_all)⟩,fun e=>by first|(simp at e;done)|omega|simp_all⟩
 by_cases e8:o=[117,110,105,111,110]
 ·subst e8;have h2:((l.length:Nat):Int)=0:=h2.trans QE;simp[Ue,Uj]at h3 h4;exact⟨3,false,0,by simp[Yk,WO],by omega,by omega,h2,by omega,by omega,(fun hb=>by first|omega|cases hb),hi ⟨(fun h=>by simp only[US];first|omega|simp_all),(fun h e=>by simp only[US];first|omega|(simp at e;done)|simp_all)⟩ ⟨(fun h=>by simp only[US];first|omega|simp_all),(fun h e=>by simp only[US];first|omega|(simp at e;done)|simp_all)⟩ ⟨(fun h=>by simp only[US];first|omega|simp_all),(fun h e=>by simp only[US];first|omega|(simp at e;done)|simp_all)⟩,fun e=>by first|(simp at e;done)|omega|simp_all⟩
 by_cases e9:o=[105,110,116,101,114]
 ·subst e9;have h2:((l.length:Nat):Int)=0:=h2.trans QE;simp[Ue,Uj]at h3 h4;exact⟨3,false,0,by simp[Yk,WO],by omega,by omega,h2,by omega,by omega,(fun hb=>by first|omega|cases hb),hi ⟨(fun h=>by simp only[US];first|omega|simp_all),(fun h e=>by simp only[US];first|omega|(simp at e;done)|simp_all)⟩ ⟨(fun h=>by simp only[US];first|omega|simp_all),(fun h e=>by simp only[US];first|omega|(simp at e;done)|simp_all)⟩ ⟨(fun h=>by simp only[US];first|omega|simp_all),(fun h e=>by simp only[US];first|omega|(simp at e;done)|simp_all)⟩,fun e=>by first|(simp at e;done)|omega|simp_all⟩
 by_cases e10:o=[109,105,110,117,115]
 ·subst e10;have h2:((l.length:Nat):Int)=0:=h2.trans QE;simp[Ue,Uj]at h3 h4;exact⟨3,false,0,by simp[Yk,WO],by omega,by omega,h2,by omega,by omega,(fun hb=>by first|omega|cases hb),hi ⟨(fun h=>by simp only[US];first|omega|simp_all),(fun h e=>by simp only[US];first|omega|(simp at e;done)|simp_all)⟩ ⟨(fun h=>by simp only[US];first|omega|simp_all),(fun h e=>by simp only[US];first|omega|(simp at e;done)|simp_all)⟩ ⟨(fun h=>by simp only[US];first|omega|simp_all),(fun h e=>by simp only[US];first|omega|(simp at e;done)|simp_all)⟩,fun e=>by first|(simp at e;done)|omega|simp_all⟩
 by_cases e11:o=[110,111,116]
 ·subst e11;have h2:((l.length:Nat):Int)=1:=h2.trans QE;simp[Ue,Uj]at h3 h4;exact⟨0,false,1,by simp[Yk,WO],by omega,by omega,h2,by omega,by omega,(fun hb=>by first|omega|cases hb),hi ⟨(fun h=>by simp only[US];first|omega|simp_all),(fun h e=>by simp only[US];first|omega|(simp at e;done)|simp_all)⟩ ⟨(fun h=>by simp only[US];first|omega|simp_all),(fun h e=>by simp only[US];first|omega|(simp at e;done)|simp_all)⟩ ⟨(fun h=>by simp only[US];first|omega|simp_all),(fun h e=>by simp only[US];first|omega|(simp at e;done)|simp_all)⟩,fun e=>by first|(simp at e;done)|omega|simp_all⟩
 by_cases e12:o=[97,110,100]
 ·subst e12;have h2:((l.length:Nat):Int)=2:=h2.trans QE;simp[Ue,Uj]at h3 h4;exact⟨0,false,2,by simp[Yk,WO],by omega,by omega,h2,by omega,by omega,(fun hb=>by first|omega|cases hb),hi ⟨(fun h=>by simp only[US];first|omega|simp_all),(fun h e=>by simp only[US];first|omega|(simp at e;done)|simp_all)⟩ ⟨(fun h=>by simp only[US];first|omega|simp_all),(fun h e=>by simp only[US];first|omega|(simp at e;done)|simp_all)⟩ ⟨(fun h=>by simp only[US];first|omega|simp_all),(fun h e=>by simp only[US];first|omega|(simp at e;done)|simp_all)⟩,fun e=>by first|(simp at e;done)|omega|simp_all⟩
 by_cases e13:o=[101,120]
 ·subst e13;have h2:((l.length:Nat):Int)=1:=h2.trans QE;simp[Ue,Uj]at h3 h4;exact⟨1,false,1,by simp[Yk,WO],by omega,by omega,h2,by omega,by omega,(fun hb=>by first|omega|cases hb),hi ⟨(fun h=>by simp only[US];first|omega|simp_all),(fun h e=>by simp only[US];first|omega|(simp at e;done)|simp_all)⟩ ⟨(fun h=>by simp only[US];first|omega|simp_all),(fun h e=>by simp only[US];first|omega|(simp at e;done)|simp_all)⟩ ⟨(fun h=>by simp only[US];first|omega|simp_all),(fun h e=>by simp only[US];first|omega|(simp at e;done)|simp_all)⟩,fun e=>by first|(simp at e;done)|omega|simp_all⟩
 simp[Ue,Ne.symm, *]at h1

theorem Tv{st:St}(hf:Qj st): ∃v st',Ev Tryz.prog Q4 133 [] st v st'∧ ∃cm,v=.mp cm∧(VY cm Lm WO).H st'.h.get∧ZJ st st' (fun c=>c=cm)∧Qt st st':=by
 have B:=Qk.start hf;refine JF Tryz.func133 Tryz.ntmps133 fun T K=>?_;have M:=B.mem;refine Qc 1 K M ?_;intro _ K;replace B:=B.step M;refine Wn Lm K B rfl fun c1 _ _ K B=>?_;have M:=B.mem;refine Qc 1 K M ?_;intro _ K;replace B:=B.step M;refine YF (j:=0) (a:=[116,114,117,101]) K B rfl Y5 rfl rfl rfl (by simp[Yk]) fun _ B=>?_;have M:=B.mem;refine Qc 1 K M ?_;intro _ K;replace B:=B.step M;refine YF (j:=0) (a:=[115,117,98]) K B rfl Y5 rfl rfl rfl (by simp[Yk]) fun _ B=>?_;have M:=B.mem;refine Qc 1 K M ?_;intro _ K;replace B:=B.step M;refine YF (j:=0) (a:=[115,105,110,103]) K B rfl Y5 rfl rfl rfl (by simp[Yk]) fun _ B=>?_;have M:=B.mem;refine Qc 1 K M ?_;intro _ K;replace B:=B.step M;refine YF (j:=0) (a:=[102,108,97,103]) K B rfl Y5 rfl rfl rfl (by simp[Yk]) fun _ B=>?_;have M:=B.mem;refine Qc 1 K M ?_;intro _ K;replace B:=B.step M;refine YF (j:=0) (a:=[110,111,110,101]) K B rfl Y5 rfl rfl rfl (by simp[Yk]) fun _ B=>?_;have M:=B.mem;refine Qc 1 K M ?_;intro _ K;replace B:=B.step M;refine YF (j:=0) (a:=[108,101,115,115]) K B rfl Y5 rfl rfl rfl (by simp[Yk]) fun _ B=>?_;have M:=B.mem;refine Qc 1 K M ?_;intro _ K;replace B:=B.step M;refine YF (j:=0) (a:=[112,108,117,115]) K B rfl Y5 rfl rfl rfl (by simp[Yk]) fun _ B=>?_;have M:=B.mem;refine Qc 1 K M ?_;intro _ K;replace B:=B.step M;refine YF (j:=0) (a:=[110,117,109]) K B rfl Y5 rfl rfl rfl (by simp[Yk]) fun _ B=>?_;have M:=B.mem;refine Qc 1 K M ?_;intro _ K;replace B:=B.step M;refine YF (j:=0) (a:=[117,110,105,111,110]) K B rfl Y5 rfl rfl rfl (by simp[Yk]) fun _ B=>?_;have M:=B.mem;refine Qc 1 K M ?_;intro _ K;replace B:=B.step M;refine YF (j:=0) (a:=[105,110,116,101,114]) K B rfl Y5 rfl rfl rfl (by simp[Yk]) fun _ B=>?_;have M:=B.mem;refine Qc 1 K M ?_;intro _ K;replace B:=B.step M;refine YF (j:=0) (a:=[109,105,110,117,115]) K B rfl Y5 rfl rfl rfl (by simp[Yk]) fun _ B=>?_;have M:=B.mem;refine Qc 1 K M ?_;intro _ K;replace B:=B.step M;refine YF (j:=0) (a:=[110,111,116]) K B rfl Y5 rfl rfl rfl (by simp[Yk]) fun _ B=>?_;have M:=B.mem;refine Qc 1 K M ?_;intro _ K;replace B:=B.step M;refine YF (j:=0) (a:=[97,110,100]) K B rfl Y5 rfl rfl rfl (by simp[Yk]) fun _ B=>?_;have M:=B.mem;refine Qc 1 K M ?_;intro _ K;replace B:=B.step M;refine YF (j:=0) (a:=[101,120]) K B rfl Y5 rfl rfl rfl (by simp[Yk]) fun _ B=>?_;have M:=B.mem;refine Qc 2 K M ?_;exact⟨c1,rfl,(B.step M).at_ (k:=0) rfl,(B.step M).jz (k:=0) rfl,(B.step M).qt⟩

theorem y9{R:Aq}{st:St}(hf:Qj st)(hR:YJ R st.h.get){a:Int}(hr:XN R (.mk o a b g n l) cs): ∃v st',Ev Tryz.prog Q4 134 [.agg cs] st v st'∧v=.agg [iZ a,iZ b,iZ g]∧Qt st st':=by
 have hr0:=hr;obtain⟨kc,ls,rfl,hK⟩:=hr.Yt;have hln:=hK.ln;have hbn:=hK.Ew;refine JF Tryz.func134 Tryz.ntmps134 fun T K=>?_;have M:=Mem.start hf;refine QC<|Qv ?_;refine Jt K M rfl (Qb rfl (Qb rfl (Qb rfl (Qb rfl (Qb rfl (Qb hK.cell Q7)))))) QE fun c1 _ _ K M=>?_;refine au 7 K M ?_;intro c2 _ _ K _ M;refine p1 K (ZC yG HX ZU OB rfl rfl) fun _ K=>?_;refine au 1 K M ?_;intro _ _ K _ M;refine Qc 0 K M ?_;exact⟨rfl,M.qt⟩

theorem Mx{R:Aq}{st:St}(hf:Qj st)(hR:YJ R st.h.get){a:Int}(hr:XN R (.mk o a b g n l) cs){m:Int}(hc:Jm (.mk o a b g n l) m=true): ∃v st',Ev Tryz.prog Q4 104 [.agg cs,iZ m] st v st'∧v=.bool true∧Qt st st':=by
 have hr0:=hr;obtain⟨kc,ls,rfl,hK⟩:=hr.Yt;have hln:=hK.ln;have hbn:=hK.Ew;obtain⟨vn,bn,kn,hsh,hv0,hv3,hk,hn1,hn2,hn0,hvar,hex⟩:=C3 hc;have B:=Qk.start hf;refine JF Tryz.func104 Tryz.ntmps104 fun T K=>?_;have M:=B.mem;refine QC<|Qv ?_;refine Jt K M rfl (Qb rfl (Qb rfl (Qb rfl (Qb rfl (Qb rfl (Qb hK.cell Q7)))))) QE fun c2 _ _ K M=>?_;refine Qc 1 K M ?_;intro _ K;refine QD (l:=[(0,0),(1,0),(2,1),(3,0),(4,0),(5,0),(7,0),(8,0),(6,0),(9,0)]) (by kernel_rfl) ?_;have Mq:=M;replace B:=B.step M;obtain⟨v10,st10,ev10,cm,rfl,hmp,nfm,q10⟩:=Tv B.fresh;refine qA rfl K (Qh rfl ev10) fun _ K=>?_;replace B:=B.new (o:=VY cm Lm WO) q10 hmp nfm;have M:=B.mem;have Mp:=Mq;have Mq:=M;refine Jf 1 K M ?_;intro _ K;refine Js rfl K rfl (M.load (k:=0) rfl (Qf HY rfl)) (Mp.load (k:=0) rfl (Qf HY rfl)) (JR rfl) rfl QE fun _ K=>?_;refine qA rfl K (Wz (a:=o) Y5 ((B.step M).at_ (k:=0) rfl) rfl rfl) fun _ K=>?_;rw[hsh]at K;refine Jf 2 K M ?_;intro _ K;refine Wq rfl K M VR QE fun c5 _ _ K M=>?_;refine Vo (k:=0) rfl K M rfl rfl rfl Fa rfl rfl rfl fun _ M=>?_;have Mp:=Mq;have Mq:=M;refine Jf 2 K M ?_;intro _ K;refine QG ?_;show W _ _ _ _ _ _ _;refine QC ?_;refine RK (J:=fun T st9=>QY [(1,iZ m),(2,.ptr c2 0 0),(4,.bool false),(5,.ptr c5 0 0),(45,.bool (decide (20<n)))] T∧Qk st Xv st9 [(c5,0,[iZ vn,.bool bn,iZ kn]),(c2,0,[.str o,iZ a,iZ b,iZ g,iZ n,kc])] [VY cm Lm WO]) ?_ (fun T st9 hJ=>?_)
 ·refine Qc 5 K M ?_;intro _ K;refine pg K rfl rfl (Q8 Uk rfl rfl hK.len) fun _ K=>?_;refine Qc 4 K M ?_;intro _ K;refine xy K (Qg rfl) rfl (fun _ e26 K=>?_) fun _ e26 K=>?_
  · refine Qc 3 K M ?_;intro _ K;refine eQ K rfl rfl (Qg rfl) rfl fun b30 _ e30 K=>?_;cases b30
    · replace e30:(bn)=true:=by simpa using e30
      refine Qc 10 K M ?_;intro _ K;refine Um K (Qg rfl) rfl (fun _ e41 K=>?_) fun _ e41 K=>?_
      · refine Qc 4 K M ?_;intro _ K;exact⟨(K.sub rfl),(B.step M).less (.refl _)⟩
      exfalso;omega
    replace e30:(bn)=false:=by simpa using e30
    refine Qc 5 K M ?_;intro _ K;refine xy K (Qg rfl) rfl (fun _ e36 K=>?_) fun _ e36 K=>?_
    · refine Qc 4 K M ?_;intro _ K;refine Um K (Qg rfl) rfl (fun _ e41 K=>?_) fun _ e41 K=>?_
      · refine Qc 4 K M ?_;intro _ K;exact⟨(K.sub rfl),(B.step M).less (.refl _)⟩
      exfalso;omega
    exfalso;first|omega|(have:=hn0 (by simpa using e30);omega)
  exfalso;omega
 obtain⟨K,B⟩:=hJ;have M:=B.mem;refine JP K rfl (fun h45=>?_) fun h45=>?_
 ·exfalso;omega
 refine Qc 1 K M ?_;intro _ K;refine oQ K M (y9 M.fresh (fun c m l hr=>(B.step M).Yz hf (hR c m l hr) id) hr0) rfl rfl fun _ _ K M=>?_;refine Qc 1 K M ?_;intro _ K;refine Jc (fun mm1 T st9=> ∃(i:Nat),mm1=3-i∧QY [(1,iZ m),(2,.ptr c2 0 0),(5,.ptr c5 0 0),(47,.agg [iZ a,iZ b,iZ g]),(48,iN i)] T∧Qk st Xv st9 [(c5,0,[iZ vn,.bool bn,iZ kn]),(c2,0,[.str o,iZ a,iZ b,iZ g,iZ n,kc])] [VY cm Lm WO]∧i≤3) (fun mm1 T st9 hI=>?_) _ _ _ ⟨0,rfl,(K.sub rfl),(B.step M).less (.refl _),Qe⟩;obtain⟨i,rfl,K,B,hi⟩:=hI;have M:=B.mem;refine Qc 1 K M ?_;intro _ K;refine JP K rfl (fun h49=>?_) fun h49=>?_
 ·refine Qc 1 K M ?_;intro _ K;have hx51:=wo a b g (i:=i) Qe;refine p1 K (TJ (j:=i) rfl rfl Qe hx51) fun _ K=>?_;refine Qc 6 K M ?_;intro _ K;refine Um K (Qg rfl) rfl (fun _ e57 K=>?_) fun _ e57 K=>?_
  · refine Qc 9 K M ?_;intro _ K;refine Um K (Qg rfl) rfl (fun _ e66 K=>?_) fun _ e66 K=>?_
    · refine Qc 17 K M ?_;intro _ K;exact⟨_,Qe,i+1,rfl,(K.sub rfl),(B.step M).less (.refl _),Qe⟩
    refine Qc 2 K M ?_;intro _ K;refine pg K rfl rfl (Bb (b:=[101,120]) rfl rfl) fun _ K=>?_;refine Qc 1 K M ?_;intro _ K;refine xy K (Qg rfl) rfl (fun _ e71 K=>?_) fun _ e71 K=>?_
    · refine Qc 12 K M ?_;intro _ K;exact⟨_,Qe,i+1,rfl,(K.sub rfl),(B.step M).less (.refl _),Qe⟩
    refine Qc 2 K M ?_;intro _ K;refine LI K rfl rfl (Qg rfl) rfl (fun _ e74 K=>?_) fun _ e74 K=>?_
    · refine Qc 6 K M ?_;intro _ K;refine Qq (K.QI rfl) (fun h61=>?_) (fun h61=>?_)
      · have hb61:=h61;replace h61:=of_decide_eq_true h61;refine Qc 1 K M ?_
        exfalso
        first
         |omega
         |(have h:=(hvar i Qe).1 Qe;omega)
         |(have h:=(hvar i Qe).2 Qe (by assumption);omega)
         |(have h:=hex (by first|assumption|(apply Classical.byContradiction;assumption));omega)
      have hb61:=h61;replace h61:=of_decide_eq_false h61;refine Qc 2 K M ?_;intro _ K;exact⟨_,Qe,i+1,rfl,(K.sub rfl),(B.step M).less (.refl _),Qe⟩
    refine Qc 8 K M ?_
    exfalso
    first
     |omega
     |(have h:=(hvar i Qe).1 Qe;omega)
     |(have h:=(hvar i Qe).2 Qe (by assumption);omega)
     |(have h:=hex (by first|assumption|(apply Classical.byContradiction;assumption));omega)
  refine Qc 4 K M ?_;intro _ K;refine Qq (K.QI rfl) (fun h52=>?_) (fun h52=>?_)
  · have hb52:=h52
    replace h52: ¬((US a b g i)=0):=by first|exact of_decide_eq_false h52|exact yF h52|simpa using h52
    refine Qc 1 K M ?_
    exfalso
    first
     |omega
     |(have h:=(hvar i Qe).1 Qe;omega)
     |(have h:=(hvar i Qe).2 Qe (by assumption);omega)
     |(have h:=hex (by first|assumption|(apply Classical.byContradiction;assumption));omega)
  have hb52:=h52
  replace h52:((US a b g i)=0):=by first|exact of_decide_eq_true h52|exact yT h52|simpa using h52
  refine Qc 4 K M ?_;intro _ K;refine Um K (Qg rfl) rfl (fun _ e66 K=>?_) fun _ e66 K=>?_
  · refine Qc 17 K M ?_;intro _ K;exact⟨_,Qe,i+1,rfl,(K.sub rfl),(B.step M).less (.refl _),Qe⟩
  refine Qc 2 K M ?_;intro _ K;refine pg K rfl rfl (Bb (b:=[101,120]) rfl rfl) fun _ K=>?_;refine Qc 1 K M ?_;intro _ K;refine xy K (Qg rfl) rfl (fun _ e71 K=>?_) fun _ e71 K=>?_
  · refine Qc 12 K M ?_;intro _ K;exact⟨_,Qe,i+1,rfl,(K.sub rfl),(B.step M).less (.refl _),Qe⟩
  refine Qc 2 K M ?_;intro _ K;refine LI K rfl rfl (Qg rfl) rfl (fun _ e74 K=>?_) fun _ e74 K=>?_
  · refine Qc 6 K M ?_;intro _ K;refine Qq (K.QI rfl) (fun h61=>?_) (fun h61=>?_)
    · have hb61:=h61;replace h61:=of_decide_eq_true h61;refine Qc 1 K M ?_
      exfalso
      first
       |omega
       |(have h:=(hvar i Qe).1 Qe;omega)
       |(have h:=(hvar i Qe).2 Qe (by assumption);omega)
       |(have h:=hex (by first|assumption|(apply Classical.byContradiction;assumption));omega)
    have hb61:=h61;replace h61:=of_decide_eq_false h61;refine Qc 2 K M ?_;intro _ K;exact⟨_,Qe,i+1,rfl,(K.sub rfl),(B.step M).less (.refl _),Qe⟩
  refine Qc 8 K M ?_
  exfalso
  first
   |omega
   |(have h:=(hvar i Qe).1 Qe;omega)
   |(have h:=(hvar i Qe).2 Qe (by assumption);omega)
   |(have h:=hex (by first|assumption|(apply Classical.byContradiction;assumption));omega)
 refine QT ?_;show W _ _ _ _ _ _ _;refine Qc 2 K M ?_;intro _ K;refine p1 K (Bb (b:=[101,120]) rfl rfl) fun _ K=>?_;refine xy K (Qg rfl) rfl (fun _ e84 K=>?_) fun _ e84 K=>?_
 ·refine Qc 4 K M ?_;intro _ K;refine LI K rfl rfl (Qg rfl) rfl (fun _ e89 K=>?_) fun _ e89 K=>?_
  · refine Qc 5 K M ?_
    exfalso
    first
     |omega
     |(have h:=(hvar i Qe).1 Qe;omega)
     |(have h:=(hvar i Qe).2 Qe (by assumption);omega)
     |(have h:=hex (by first|assumption|(apply Classical.byContradiction;assumption));omega)
  refine Qc 5 K M ?_;refine⟨congrArg AV.bool (decide_eq_true ?_),(B.step M).qt⟩;exact(hex (by first|assumption|(apply Classical.byContradiction;assumption))).2
 refine Qc 10 K M ?_;exact⟨rfl,(B.step M).qt⟩

theorem Mn{R:Aq}{st:St}(hf:Qj st)(hR:YJ R st.h.get){kc:AV}{ls:List (List AV)}(hK:Zb R l kc ls){fo:FuncId}{fa fc:List AV}(hC: ∀(k:Cr) (cs:List AV),k∈l→XN R k cs→ ∀(st1:St),Qt st st1→ ∃v st',Ev Tryz.prog Q4 fo (fa++([.agg cs]++fc)) st1 v st'∧v=.bool false∧Qt st1 st'): ∃v st',Ev Tryz.prog Q4 135 [kc,(.fn fo fa fc)] st v st'∧v=iZ (-1)∧Qt st st':=by
 have hbn:=hK.Ew;refine JF Tryz.func135 Tryz.ntmps135 fun T K=>?_;have M:=Mem.start hf;refine Qc 2 K M ?_;intro _ K;refine p1 K (Q8 Uk rfl rfl hK.len) fun _ K=>?_;refine Qc 1 K M ?_;intro _ K;refine Jc (fun mm1 T st9=> ∃(i:Nat),mm1=l.length-i∧QY [(0,kc),(1,(.fn fo fa fc)),(7,iZ (l.length:Nat)),(8,iN i)] T∧Mem st.h.get st.n [] st9 []∧i≤l.length) (fun mm1 T st9 hI=>?_) _ _ _ ⟨0,rfl,(K.sub rfl),M.less (.refl _),(Nat.zero_le _)⟩;obtain⟨i,rfl,K,M,hi⟩:=hI;refine Qc 1 K M ?_;intro _ K;refine JP K rfl (fun h9=>?_) fun h9=>?_
 ·refine Qc 5 K M ?_;intro _ K;obtain⟨⟨o14,a14,b14,g14,n14,l14⟩,hi14⟩: ∃k,l[i]? =some k:=⟨_,List.getElem?_eq_getElem Qe⟩;have hm14:=I1 hi14;obtain⟨_,hc14,hn14⟩:=hK.get hi14;have hp14:=hn14;obtain⟨kc14,ls14,rfl,hK14⟩:=hp14.Yt;obtain⟨x14,m14,f14,q14,_,la14,lo14,lp14⟩:=(hK.r (M.YJ hR)).load (i:=i) (cs:=_) hc14;refine p1 K (Qa (j:=i) JA (congrArg some q14) rfl (by rw[hK.ln];omega)) fun _ K=>p1 K (Qd rfl (la14 _ Jj)) fun _ K=>?_;obtain⟨v16,st16,ev16,rfl,q16⟩:=hC _ _ hm14 hn14 _ M.qt;refine p1 K (ZP rfl rfl ev16) fun _ K=>?_;replace M:=M.quiet q16;refine Qc 3 K M ?_;intro _ K;exact⟨_,Qe,i+1,rfl,(K.sub rfl),M.less (.refl _),Qe⟩
 refine QT ?_;show W _ _ _ _ _ _ _;refine Qc 1 K M ?_;exact⟨rfl,M.qt⟩

theorem HM{R:Aq}{st:St}(hf:Qj st)(hR:YJ R st.h.get){kc:AV}{ls:List (List AV)}(hK:Zb R l kc ls){fo:FuncId}{fa fc:List AV}(hC: ∀(k:Cr) (cs:List AV),k∈l→XN R k cs→ ∀(st1:St),Qt st st1→ ∃v st',Ev Tryz.prog Q4 fo (fa++([.agg cs]++fc)) st1 v st'∧v=.bool false∧Qt st1 st'): ∃v st',Ev Tryz.prog Q4 105 [kc,(.fn fo fa fc)] st v st'∧v=.bool false∧Qt st st':=by
 refine JF Tryz.func105 Tryz.ntmps105 fun T K=>?_;have M:=Mem.start hf;refine Qc 3 K M ?_;intro _ K;refine oQ K M (Mn M.fresh (M.YJ hR) hK (fun k cs hm hk st1 q=>hC k cs hm hk st1 (M.qt.trans q))) rfl rfl fun _ _ K M=>?_;refine Qc 2 K M ?_;exact⟨rfl,M.qt⟩

theorem SC{R:Aq}{st:St}(hf:Qj st)(hR:YJ R st.h.get){k:Cr}(hr:XN R k cs){c3:Nat}{m:Int}(h3:Q0 st.h.get c3 0 [iZ m])(ih: ∀(st1:St),Qt st st1→YJ R st1.h.get→ ∃v st',Ev Tryz.prog Q4 78 [.agg cs,iZ m] st1 v st'∧v=.bool true∧Qt st1 st'): ∃v st',Ev Tryz.prog Q4 106 [.agg cs,.ptr c3 0 0] st v st'∧v=.bool false∧Qt st st':=by
 have hp:=hr;obtain⟨o,a,b,g,n,l,kc,ls,rfl,rfl,hK⟩:=hp.yr;refine JF Tryz.func106 Tryz.ntmps106 fun T K=>?_;have M:=Mem.start hf;refine QC<|Qv ?_;refine Jt K M rfl (Qb rfl (Qb rfl (Qb rfl (Qb rfl (Qb rfl (Qb hK.cell Q7)))))) QE fun c2 _ _ K M=>?_;refine Qc 2 K M ?_;intro _ K;refine p1 K (Qd rfl (Qz (M.JG QA h3.Jd) (Qf Qr rfl))) fun _ K=>?_;refine oQ K M (ih _ M.qt (M.YJ hR)) rfl rfl fun _ _ K M=>?_;refine Qc 2 K M ?_;exact⟨rfl,M.qt⟩

theorem zY(x:Cr): ∀(m:Int) (R:Aq) (st:St) (cs:List AV),Qj st→YJ R st.h.get→XN R x cs→Jm x m=true→ -100≤m→m≤100→ ∃v st',Ev Tryz.prog Q4 78 [.agg cs,iZ m] st v st'∧v=.bool true∧Qt st st':=by
 refine I0 (M:=fun x=> ∀(m:Int) (R:Aq) (st:St) (cs:List AV),Qj st→YJ R st.h.get→XN R x cs→Jm x m=true→ -100≤m→m≤100→ ∃v st',Ev Tryz.prog Q4 78 [.agg cs,iZ m] st v st'∧v=.bool true∧Qt st st') (fun o a b g n l ih=>?_) x;intro m R st cs hf hR hr hc hm1 hm2;have hr0:=hr;obtain⟨kc,ls,rfl,hK⟩:=hr.Yt;have hln:=hK.ln;have hbn:=hK.Ew;refine JF Tryz.func78 Tryz.ntmps78 fun T K=>?_;have M:=Mem.start hf;refine QC<|Qv ?_;refine Jt K M rfl (Qb rfl (Qb rfl (Qb rfl (Qb rfl (Qb rfl (Qb hK.cell Q7)))))) QE fun c2 _ _ K M=>?_;refine au 4 K M ?_;intro c3 _ _ K _ M;refine oQ K M (Mx M.fresh (M.YJ hR) hr0 hc) rfl rfl fun _ _ K M=>?_;refine Qc 4 K M ?_;intro _ K;refine p1 K (Jk (b:=[101,120]) rfl rfl) fun _ K=>Un ?_;show W _ _ _ _ _ _ _;refine JP K rfl (fun h11=>?_) fun h11=>?_
 ·have hcx:=hc;rw[Jm,if_pos h11]at hcx;simp only[Bool.and_eq_true,decide_eq_true_eq]at hcx;obtain⟨_,_,_,_,hm6,_,_,hcl⟩:=hcx;refine au 5 K M ?_;intro _ _ K _ M;refine p1 K (Xt rfl rfl) fun _ K=>?_;have r3:=M.UX (k:=0) rfl;obtain⟨v17,st17,ev17,rfl,q17⟩:=HM (R:=R) M.fresh (M.YJ hR) hK (fo:=106) (fa:=[]) (fc:=[.ptr c3 0 0]) (fun k cs hm hk st1 q=>SC (m:=(m+1)) q.fresh (fun c m l hr=>by obtain⟨ro,e,vs,ms,h2,h3⟩:=M.YJ hR c m l hr;exact⟨ro,e,vs,ms,by rw[q.J6 c (Nat.lt_of_not_le fun hle=>by rw[M.fresh c hle]at h2;cases h2)];exact h2,h3⟩) hk (r3.frame (q.J6 c3 (r3.lt M.fresh))) (fun st2 q2 hR2=>ih k hm _ R _ _ q2.fresh hR2 hk (I2 hcl hm) Qe Qe));refine p1 K (Qh rfl ev17) fun _ K=>?_;replace M:=M.quiet q17;refine Qc 2 K M ?_;exact⟨rfl,M.qt⟩
 refine Qc 0 K M ?_;intro _ K;have hcx:=hc;rw[Jm,if_neg h11]at hcx;simp only[Bool.and_eq_true,decide_eq_true_eq]at hcx;obtain⟨_,_,_,_,_,_,hcl⟩:=hcx;refine Qc 2 K M ?_;intro _ K;refine p1 K (Xt rfl rfl) fun _ K=>?_;have r3:=M.UX (k:=0) rfl;obtain⟨v17,st17,ev17,rfl,q17⟩:=HM (R:=R) M.fresh (M.YJ hR) hK (fo:=106) (fa:=[]) (fc:=[.ptr c3 0 0]) (fun k cs hm hk st1 q=>SC (m:=m) q.fresh (fun c m l hr=>by obtain⟨ro,e,vs,ms,h2,h3⟩:=M.YJ hR c m l hr;exact⟨ro,e,vs,ms,by rw[q.J6 c (Nat.lt_of_not_le fun hle=>by rw[M.fresh c hle]at h2;cases h2)];exact h2,h3⟩) hk (r3.frame (q.J6 c3 (r3.lt M.fresh))) (fun st2 q2 hR2=>ih k hm _ R _ _ q2.fresh hR2 hk (I2 hcl hm) Qe Qe));refine p1 K (Qh rfl ev17) fun _ K=>?_;replace M:=M.quiet q17;refine Qc 2 K M ?_;exact⟨rfl,M.qt⟩

theorem SP{R:Aq}{st:St}(hf:Qj st)(hR:YJ R st.h.get){a:Int}(hr:XN R (.mk o a b g n l) cs){m:Int}(h0:0≤m)(h6:m≤6)(hsz:XE (.mk o a b g n l)≤2000)(hc:Jm (.mk o a b g n l) m=true): ∃v st',Ev Tryz.prog Q4 53 [.agg cs,iZ m] st v st'∧v=.bool true∧Qt st st':=by
 have hr0:=hr;obtain⟨kc,ls,rfl,hK⟩:=hr.Yt;have hln:=hK.ln;have hbn:=hK.Ew;refine JF Tryz.func53 Tryz.ntmps53 fun T K=>?_;have M:=Mem.start hf;refine QC<|Qv ?_;refine Jt K M rfl (Qb rfl (Qb rfl (Qb rfl (Qb rfl (Qb rfl (Qb hK.cell Q7)))))) QE fun c2 _ _ K M=>?_;refine Qc 3 K M ?_;intro _ K;refine Um K (Qg rfl) rfl (fun _ e7 K=>?_) fun _ e7 K=>?_
 ·exfalso;omega
 refine Qc 3 K M ?_;intro _ K;refine Um K (Qg rfl) rfl (fun _ e11 K=>?_) fun _ e11 K=>?_
 ·exfalso;omega
 refine Qc 1 K M ?_;intro _ K;obtain⟨v13,st13,ev13,rfl,q13⟩:=MC M.fresh (M.YJ hR) hr0;refine pg K rfl rfl (Qh rfl ev13) fun _ K=>?_;replace M:=M.quiet q13;refine Qc 2 K M ?_;intro _ K;refine Um K (Qg rfl) rfl (fun _ e16 K=>?_) fun _ e16 K=>?_
 ·exfalso;omega
 refine Qc 2 K M ?_;intro _ K;obtain⟨v19,st19,ev19,rfl,q19⟩:=zY (.mk o a b g n l) m R _ _ M.fresh (M.YJ hR) hr0 hc Qe Qe;refine pg K rfl rfl (Qh rfl ev19) fun _ K=>?_;replace M:=M.quiet q19;refine Qc 2 K M ?_;exact⟨rfl,M.qt⟩
end Go.Proofs.YtiknomepbklibaaGreatDoor
