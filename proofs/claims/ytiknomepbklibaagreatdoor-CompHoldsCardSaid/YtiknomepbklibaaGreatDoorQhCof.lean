/-
  Core formulas that may be: the program says so.
-/
import Derived.Test.YtiknomepbklibaaGreatDoorQhCor
namespace Go.Proofs.YtiknomepbklibaaGreatDoor
open Go Go.RowKit
set_option maxHeartbeats 8000000
set_option linter.unusedVariables false
set_option linter.unusedSimpArgs false
set_option linter.unnecessarySimpa false
set_option linter.unusedSectionVars false
set_option maxRecDepth 100000
variable {b g n:Int} {cs:List AV} {l:List Cr} {o:List Nat}

abbrev LO(x:List Nat):AV:=.str x
theorem zV:Tryz.prog.underlying 166=some (.map 9 164):=by kernel_rfl
theorem zZ:Tryz.prog.underlying 168=some (.array 3 3):=by kernel_rfl
theorem vH:Wx Tryz.prog 168=some (3,3):=by kernel_rfl
abbrev sh(v:Int)(b:Bool)(k:Int):AV:=.agg [.int .i64 v,.bool b,.int .i64 k]
theorem YB:VQ Tryz.prog 166 LO (sh 0 false 0):=⟨9,164,.string,zV,W8,by kernel_rfl,fun a=>rfl,fun a i=>rfl,fun a b v n es i=>by
 have e:Y1 Tryz.prog 9 .string (LO a) ((LO b,v,n)::es) i=Qj (GO a b) (some (some (i,v))) (Y1 Tryz.prog 9 .string (LO a) es (i+1)):=by
  refine(VB .string (LO a) (LO b,v,n) es i).trans ?_;show ob (some (GO a b)) _=_;rw[Ql];rfl
 rw[e,Xa]
 exact⟨fun h=>by rw[decide_eq_true h];rfl,fun h=>by rw[decide_eq_false h];rfl⟩⟩
section
variable {α:Type} {key:α→AV} {P:Program} {G:Env} {N:Nat} {st0 st:St} {X0:Fp} {M:QS} {Os:List Ob} {T:Tr AV} {ops rest:List Oper} {K:List (Nat×AV)} {R:Tr AV→St→Prop} {t ty:TypeId} {pos:String} {af:Array Edge} {z:AV} {vl:List AV} {cm j:Nat} {L:List (α×AV)} {a:α} {m k x:Operand}
theorem xM(Tk:VQ P t key z){n:Nat}{es:List (AV×AV×Nat)}(hc:st.h.get cm=some (.map es n))(he:O0 key es L)(hm:QV G K m=some (.mp cm))(hk:QV G K k=some (key a))(hx:QV G K x=some (.agg vl))(hn:Yr L a=none):
  U3 P G K (.insert t m k x) st (.tup []) (Av st cm n es (key a) (.agg vl)):=.of fun T' hT c d ty pos af g=>by
 obtain⟨kt,et,d',u1,u2,u3,u4,u5,u6⟩:=Tk.rule;show(ob (QG G T' m) fun m=>ob (QG G T' k) fun k=>ob (QG G T' x) fun x=>Z0 P t m k x st)=_;rw[hT.QG hm,hT.QG hk,hT.QG hx,Ql,Ql,Ql];unfold Z0 Av;obtain⟨f1,f2⟩:=VQ.find (P:=P) (t:=t) (z:=z) (et:=et) u5 u6 a L es 0 he;simp only[u1,u2,u4,QO,hc,Ql,f1 hn,Bool.or_true,Ub,U6,Ji,UK]
theorem YK(hK:QT K T)(B:Qk st0 X0 st M Os)(hj:Os[j]? =some (Wo cm key L))(Tk:VQ P t key z)(hm:QV G K m=some (.mp cm))(hk:QV G K k=some (key a))(hx:QV G K x=some (.agg vl))(hn:Yr L a=none)
  (hr: ∀st',Qk st0 X0 st' M (Os.set j (Wo cm key (L++[(a,.agg vl)])))→WR P G N ops rest R T st'):WR P G N ops (⟨none,.insert t m k x,ty,pos,af,none⟩::rest) R T st:=by
 obtain⟨es,n,hc,he⟩:=B.at_ hj;exact SC hK (xM Tk hc he hm hk hx hn) (hr _ (B.BT hj hc he a (.agg vl)))
end
def Ej:List (List Nat×AV):=[([116,114,117,101],sh 0 false 0),([115,117,98],sh 2 false 0),([115,105,110,103],sh 1 false 0),([102,108,97,103],sh 1 false 0),([110,111,110,101],sh 1 false 0),([108,101,115,115],sh 2 false 0),([112,108,117,115],sh 2 true 0),([110,117,109],sh 1 true 0),([117,110,105,111,110],sh 3 false 0),([105,110,116,101,114],sh 3 false 0),([109,105,110,117,115],sh 3 false 0),([110,111,116],sh 0 false 1),([97,110,100],sh 0 false 2),([101,120],sh 1 false 1)]
def UY(a b g:Int)(i:Nat):Int:=if i=0 then a else if i=1 then b else g
theorem ao(a b g:Int){i:Nat}(h:i<3):([AV.int .i64 a,.int .i64 b,.int .i64 g]:List AV)[i]? =some (.int .i64 (UY a b g i)):=by
 match i,h with
 |0,_=>rfl
 |1,_=>rfl
 |2,_=>rfl
theorem MG{G:Env}{K:List (Nat×AV)}{st:St}{x i:Operand}{l:List AV}{j:Nat}{v:AV}(hx:QV G K x=some (.agg l))(hi:QV G K i=some (.int .i64 (j:Nat)))(hj:j<3)(hv:l[j]? =some v):U3 Tryz.prog G K (.index 168 x i) st v st:=.of fun T hT cc d ty pos af g=>by
 show ret (ob (QG G T x) fun x=>ob (QG G T i) fun i=>FY Tryz.prog 168 x i) st=_;rw[hT.QG hx,hT.QG hi,Ql,Ql];unfold FY;show ret (ob (Wx Tryz.prog 168) fun q=>ob (O7 ((j:Nat):Int)) fun i=>QK (Nat.ble (i+1) q.1) (Vb Tryz.prog q.2 l (i *Tryz.prog.cellsOf q.2))) st=_;rw[vH,Ql,show O7 ((j:Nat):Int)=some j from rfl,Ql,Xb,Nat.mul_one,show Nat.ble (j+1) 3=true from Nat.ble_eq_true_of_le hj,QO];unfold Vb;rw[Qn];show ret (nth l j) st=_;rw[U7,hv];rfl
theorem Dc{a m:Int}(h:QX (.mk o a b g n l) m=true): ∃vn bn kn,Yr Ej o=some (sh vn bn kn)∧0≤vn∧vn≤3∧((l.length:Nat):Int)=kn∧0≤n∧n<21∧(bn=false→n=0)∧(∀i:Nat,i<3→(vn≤i→UY a b g i=0)∧((i:Int)<vn→o≠[101,120]→0≤UY a b g i∧UY a b g i<m))∧(o=[101,120]→a=m∧m<6):=by
 have hi: ∀{P:Nat→Prop},P 0→P 1→P 2→ ∀i,i<3→P i:=fun h0 h1 h2 i hi=>by
  match i,hi with
  |0,_=>exact h0
  |1,_=>exact h1
  |2,_=>exact h2
 rw[QX]at h;simp only[Bool.and_eq_true,decide_eq_true_eq]at h;obtain⟨h1,h2,h3,h4⟩:=h
 by_cases e0:o=[116,114,117,101]
 ·subst e0;have h2:((l.length:Nat):Int)=0:=h2.trans Q9;simp[Ui,JM]at h3 h4;exact⟨0,false,0,by simp[Yr,Ej],by omega,by omega,h2,by omega,by omega,(fun hb=>by first|omega|cases hb),hi ⟨(fun h=>by simp only[UY];first|omega|simp_all),(fun h e=>by simp only[UY];first|omega|(simp at e;done)|simp_all)⟩ ⟨(fun h=>by simp only[UY];first|omega|simp_all),(fun h e=>by simp only[UY];first|omega|(simp at e;done)|simp_all)⟩ ⟨(fun h=>by simp only[UY];first|omega|simp_all),(fun h e=>by simp only[UY];first|omega|(simp at e;done)|simp_all)⟩,fun e=>by first|(simp at e;done)|omega|simp_all⟩
 by_cases e1:o=[115,117,98]
 ·subst e1;have h2:((l.length:Nat):Int)=0:=h2.trans Q9;simp[Ui,JM]at h3 h4;exact⟨2,false,0,by simp[Yr,Ej],by omega,by omega,h2,by omega,by omega,(fun hb=>by first|omega|cases hb),hi ⟨(fun h=>by simp only[UY];first|omega|simp_all),(fun h e=>by simp only[UY];first|omega|(simp at e;done)|simp_all)⟩ ⟨(fun h=>by simp only[UY];first|omega|simp_all),(fun h e=>by simp only[UY];first|omega|(simp at e;done)|simp_all)⟩ ⟨(fun h=>by simp only[UY];first|omega|simp_all),(fun h e=>by simp only[UY];first|omega|(simp at e;done)|simp_all)⟩,fun e=>by first|(simp at e;done)|omega|simp_all⟩
 by_cases e2:o=[115,105,110,103]
 ·subst e2;have h2:((l.length:Nat):Int)=0:=h2.trans Q9;simp[Ui,JM]at h3 h4;exact⟨1,false,0,by simp[Yr,Ej],by omega,by omega,h2,by omega,by omega,(fun hb=>by first|omega|cases hb),hi ⟨(fun h=>by simp only[UY];first|omega|simp_all),(fun h e=>by simp only[UY];first|omega|(simp at e;done)|simp_all)⟩ ⟨(fun h=>by simp only[UY];first|omega|simp_all),(fun h e=>by simp only[UY];first|omega|(simp at e;done)|simp_all)⟩ ⟨(fun h=>by simp only[UY];first|omega|simp_all),(fun h e=>by simp only[UY];first|omega|(simp at e;done)|simp_all)⟩,fun e=>by first|(simp at e;done)|omega|simp_all⟩
 by_cases e3:o=[102,108,97,103]
 ·subst e3;have h2:((l.length:Nat):Int)=0:=h2.trans Q9;simp[Ui,JM]at h3 h4;exact⟨1,false,0,by simp[Yr,Ej],by omega,by omega,h2,by omega,by omega,(fun hb=>by first|omega|cases hb),hi ⟨(fun h=>by simp only[UY];first|omega|simp_all),(fun h e=>by simp only[UY];first|omega|(simp at e;done)|simp_all)⟩ ⟨(fun h=>by simp only[UY];first|omega|simp_all),(fun h e=>by simp only[UY];first|omega|(simp at e;done)|simp_all)⟩ ⟨(fun h=>by simp only[UY];first|omega|simp_all),(fun h e=>by simp only[UY];first|omega|(simp at e;done)|simp_all)⟩,fun e=>by first|(simp at e;done)|omega|simp_all⟩
 by_cases e4:o=[110,111,110,101]
 ·subst e4;have h2:((l.length:Nat):Int)=0:=h2.trans Q9;simp[Ui,JM]at h3 h4;exact⟨1,false,0,by simp[Yr,Ej],by omega,by omega,h2,by omega,by omega,(fun hb=>by first|omega|cases hb),hi ⟨(fun h=>by simp only[UY];first|omega|simp_all),(fun h e=>by simp only[UY];first|omega|(simp at e;done)|simp_all)⟩ ⟨(fun h=>by simp only[UY];first|omega|simp_all),(fun h e=>by simp only[UY];first|omega|(simp at e;done)|simp_all)⟩ ⟨(fun h=>by simp only[UY];first|omega|simp_all),(fun h e=>by simp only[UY];first|omega|(simp at e;done)|simp_all)⟩,fun e=>by first|(simp at e;done)|omega|simp_all⟩
 by_cases e5:o=[108,101,115,115]
 ·subst e5;have h2:((l.length:Nat):Int)=0:=h2.trans Q9;simp[Ui,JM]at h3 h4;exact⟨2,false,0,by simp[Yr,Ej],by omega,by omega,h2,by omega,by omega,(fun hb=>by first|omega|cases hb),hi ⟨(fun h=>by simp only[UY];first|omega|simp_all),(fun h e=>by simp only[UY];first|omega|(simp at e;done)|simp_all)⟩ ⟨(fun h=>by simp only[UY];first|omega|simp_all),(fun h e=>by simp only[UY];first|omega|(simp at e;done)|simp_all)⟩ ⟨(fun h=>by simp only[UY];first|omega|simp_all),(fun h e=>by simp only[UY];first|omega|(simp at e;done)|simp_all)⟩,fun e=>by first|(simp at e;done)|omega|simp_all⟩
 by_cases e6:o=[112,108,117,115]
 ·subst e6;have h2:((l.length:Nat):Int)=0:=h2.trans Q9;simp[Ui,JM]at h3 h4;exact⟨2,true,0,by simp[Yr,Ej],by omega,by omega,h2,by omega,by omega,(fun hb=>by first|omega|cases hb),hi ⟨(fun h=>by simp only[UY];first|omega|simp_all),(fun h e=>by simp only[UY];first|omega|(simp at e;done)|simp_all)⟩ ⟨(fun h=>by simp only[UY];first|omega|simp_all),(fun h e=>by simp only[UY];first|omega|(simp at e;done)|simp_all)⟩ ⟨(fun h=>by simp only[UY];first|omega|simp_all),(fun h e=>by simp only[UY];first|omega|(simp at e;done)|simp_all)⟩,fun e=>by first|(simp at e;done)|omega|simp_all⟩
 by_cases e7:o=[110,117,109]
 ·subst e7;have h2:((l.length:Nat):Int)=0:=h2.trans Q9;simp[Ui,JM]at h3 h4;exact⟨1,true,0,by simp[Yr,Ej],by omega,by omega,h2,by omega,by omega,(fun hb=>by first|omega|cases hb),hi ⟨(fun h=>by simp only[UY];first|omega|simp_all),(fun h e=>by simp only[UY];first|omega|(simp at e;done)|simp_all)⟩ ⟨(fun h=>by simp only[UY];first|omega|simp_all),(fun h e=>by simp only[UY];first|omega|(simp at e;done)|simp_all)⟩ ⟨(fun h=>by simp only[UY];first|omega|simp_all),(fun h e=>by simp only[UY];first|omega|(simp at e;done)|simp_all)⟩,fun e=>by first|(simp at e;done)|omega|simp_all⟩
 by_cases e8:o=[117,110,105,111,110]
 ·subst e8;have h2:((l.length:Nat):Int)=0:=h2.trans Q9;simp[Ui,JM]at h3 h4;exact⟨3,false,0,by simp[Yr,Ej],by omega,by omega,h2,by omega,by omega,(fun hb=>by first|omega|cases hb),hi ⟨(fun h=>by simp only[UY];first|omega|simp_all),(fun h e=>by simp only[UY];first|omega|(simp at e;done)|simp_all)⟩ ⟨(fun h=>by simp only[UY];first|omega|simp_all),(fun h e=>by simp only[UY];first|omega|(simp at e;done)|simp_all)⟩ ⟨(fun h=>by simp only[UY];first|omega|simp_all),(fun h e=>by simp only[UY];first|omega|(simp at e;done)|simp_all)⟩,fun e=>by first|(simp at e;done)|omega|simp_all⟩
 by_cases e9:o=[105,110,116,101,114]
 ·subst e9;have h2:((l.length:Nat):Int)=0:=h2.trans Q9;simp[Ui,JM]at h3 h4;exact⟨3,false,0,by simp[Yr,Ej],by omega,by omega,h2,by omega,by omega,(fun hb=>by first|omega|cases hb),hi ⟨(fun h=>by simp only[UY];first|omega|simp_all),(fun h e=>by simp only[UY];first|omega|(simp at e;done)|simp_all)⟩ ⟨(fun h=>by simp only[UY];first|omega|simp_all),(fun h e=>by simp only[UY];first|omega|(simp at e;done)|simp_all)⟩ ⟨(fun h=>by simp only[UY];first|omega|simp_all),(fun h e=>by simp only[UY];first|omega|(simp at e;done)|simp_all)⟩,fun e=>by first|(simp at e;done)|omega|simp_all⟩
 by_cases e10:o=[109,105,110,117,115]
 ·subst e10;have h2:((l.length:Nat):Int)=0:=h2.trans Q9;simp[Ui,JM]at h3 h4;exact⟨3,false,0,by simp[Yr,Ej],by omega,by omega,h2,by omega,by omega,(fun hb=>by first|omega|cases hb),hi ⟨(fun h=>by simp only[UY];first|omega|simp_all),(fun h e=>by simp only[UY];first|omega|(simp at e;done)|simp_all)⟩ ⟨(fun h=>by simp only[UY];first|omega|simp_all),(fun h e=>by simp only[UY];first|omega|(simp at e;done)|simp_all)⟩ ⟨(fun h=>by simp only[UY];first|omega|simp_all),(fun h e=>by simp only[UY];first|omega|(simp at e;done)|simp_all)⟩,fun e=>by first|(simp at e;done)|omega|simp_all⟩
 by_cases e11:o=[110,111,116]
 ·subst e11;have h2:((l.length:Nat):Int)=1:=h2.trans Q9;simp[Ui,JM]at h3 h4;exact⟨0,false,1,by simp[Yr,Ej],by omega,by omega,h2,by omega,by omega,(fun hb=>by first|omega|cases hb),hi ⟨(fun h=>by simp only[UY];first|omega|simp_all),(fun h e=>by simp only[UY];first|omega|(simp at e;done)|simp_all)⟩ ⟨(fun h=>by simp only[UY];first|omega|simp_all),(fun h e=>by simp only[UY];first|omega|(simp at e;done)|simp_all)⟩ ⟨(fun h=>by simp only[UY];first|omega|simp_all),(fun h e=>by simp only[UY];first|omega|(simp at e;done)|simp_all)⟩,fun e=>by first|(simp at e;done)|omega|simp_all⟩
 by_cases e12:o=[97,110,100]
 ·subst e12;have h2:((l.length:Nat):Int)=2:=h2.trans Q9;simp[Ui,JM]at h3 h4;exact⟨0,false,2,by simp[Yr,Ej],by omega,by omega,h2,by omega,by omega,(fun hb=>by first|omega|cases hb),hi ⟨(fun h=>by simp only[UY];first|omega|simp_all),(fun h e=>by simp only[UY];first|omega|(simp at e;done)|simp_all)⟩ ⟨(fun h=>by simp only[UY];first|omega|simp_all),(fun h e=>by simp only[UY];first|omega|(simp at e;done)|simp_all)⟩ ⟨(fun h=>by simp only[UY];first|omega|simp_all),(fun h e=>by simp only[UY];first|omega|(simp at e;done)|simp_all)⟩,fun e=>by first|(simp at e;done)|omega|simp_all⟩
 by_cases e13:o=[101,120]
 ·subst e13;have h2:((l.length:Nat):Int)=1:=h2.trans Q9;simp[Ui,JM]at h3 h4;exact⟨1,false,1,by simp[Yr,Ej],by omega,by omega,h2,by omega,by omega,(fun hb=>by first|omega|cases hb),hi ⟨(fun h=>by simp only[UY];first|omega|simp_all),(fun h e=>by simp only[UY];first|omega|(simp at e;done)|simp_all)⟩ ⟨(fun h=>by simp only[UY];first|omega|simp_all),(fun h e=>by simp only[UY];first|omega|(simp at e;done)|simp_all)⟩ ⟨(fun h=>by simp only[UY];first|omega|simp_all),(fun h e=>by simp only[UY];first|omega|(simp at e;done)|simp_all)⟩,fun e=>by first|(simp at e;done)|omega|simp_all⟩
 simp[Ui,Ne.symm, *]at h1

theorem Mo{st:St}(hf:Qi st): ∃v st',Jh 133 [] st v st'∧ ∃cm,v=.mp cm∧(Wo cm LO Ej).H st'.h.get∧ZQ st st' (fun c=>c=cm)∧Qt st st':=by
 have B:=Qk.start hf;refine JA Tryz.func133 Tryz.ntmps133 fun T K=>?_;have M:=B.mem;refine Qb 1 K M fun _ K=>?_;replace B:=B.step M;refine W3 LO K B rfl fun c1 _ _ K B=>?_;have M:=B.mem;refine Qb 1 K M fun _ K=>?_;replace B:=B.step M;refine YK (j:=0) (a:=[116,114,117,101]) K B rfl YB rfl rfl rfl (by simp[Yr]) fun _ B=>?_;have M:=B.mem;refine Qb 1 K M fun _ K=>?_;replace B:=B.step M;refine YK (j:=0) (a:=[115,117,98]) K B rfl YB rfl rfl rfl (by simp[Yr]) fun _ B=>?_;have M:=B.mem;refine Qb 1 K M fun _ K=>?_;replace B:=B.step M;refine YK (j:=0) (a:=[115,105,110,103]) K B rfl YB rfl rfl rfl (by simp[Yr]) fun _ B=>?_;have M:=B.mem;refine Qb 1 K M fun _ K=>?_;replace B:=B.step M;refine YK (j:=0) (a:=[102,108,97,103]) K B rfl YB rfl rfl rfl (by simp[Yr]) fun _ B=>?_;have M:=B.mem;refine Qb 1 K M fun _ K=>?_;replace B:=B.step M;refine YK (j:=0) (a:=[110,111,110,101]) K B rfl YB rfl rfl rfl (by simp[Yr]) fun _ B=>?_;have M:=B.mem;refine Qb 1 K M fun _ K=>?_;replace B:=B.step M;refine YK (j:=0) (a:=[108,101,115,115]) K B rfl YB rfl rfl rfl (by simp[Yr]) fun _ B=>?_;have M:=B.mem;refine Qb 1 K M fun _ K=>?_;replace B:=B.step M;refine YK (j:=0) (a:=[112,108,117,115]) K B rfl YB rfl rfl rfl (by simp[Yr]) fun _ B=>?_;have M:=B.mem;refine Qb 1 K M fun _ K=>?_;replace B:=B.step M;refine YK (j:=0) (a:=[110,117,109]) K B rfl YB rfl rfl rfl (by simp[Yr]) fun _ B=>?_;have M:=B.mem;refine Qb 1 K M fun _ K=>?_;replace B:=B.step M;refine YK (j:=0) (a:=[117,110,105,111,110]) K B rfl YB rfl rfl rfl (by simp[Yr]) fun _ B=>?_;have M:=B.mem;refine Qb 1 K M fun _ K=>?_;replace B:=B.step M;refine YK (j:=0) (a:=[105,110,116,101,114]) K B rfl YB rfl rfl rfl (by simp[Yr]) fun _ B=>?_;have M:=B.mem;refine Qb 1 K M fun _ K=>?_;replace B:=B.step M;refine YK (j:=0) (a:=[109,105,110,117,115]) K B rfl YB rfl rfl rfl (by simp[Yr]) fun _ B=>?_;have M:=B.mem;refine Qb 1 K M fun _ K=>?_;replace B:=B.step M;refine YK (j:=0) (a:=[110,111,116]) K B rfl YB rfl rfl rfl (by simp[Yr]) fun _ B=>?_;have M:=B.mem;refine Qb 1 K M fun _ K=>?_;replace B:=B.step M;refine YK (j:=0) (a:=[97,110,100]) K B rfl YB rfl rfl rfl (by simp[Yr]) fun _ B=>?_;have M:=B.mem;refine Qb 1 K M fun _ K=>?_;replace B:=B.step M;refine YK (j:=0) (a:=[101,120]) K B rfl YB rfl rfl rfl (by simp[Yr]) fun _ B=>?_;have M:=B.mem;refine Qb 2 K M ?_;exact⟨c1,rfl,(B.step M).at_ (k:=0) rfl,(B.step M).uI (k:=0) rfl,(B.step M).qt⟩

theorem zT{R:Ee}{st:St}(hf:Qi st)(hR:Y8 R st.h.get){a:Int}(hr:ZO R (.mk o a b g n l) cs): ∃v st',Jh 134 [.agg cs] st v st'∧v=.agg [iZ a,iZ b,iZ g]∧Qt st st':=by
 have hr0:=hr;obtain⟨kc,ls,rfl,hK⟩:=hr.U5;have hln:=hK.ln;have hbn:=hK.Wv;refine JA Tryz.func134 Tryz.ntmps134 fun T K=>?_;have M:=Mem.start hf;refine Qb 0 K M fun _ K=>?_;refine Ju K M rfl (Qa rfl (Qa rfl (Qa rfl (Qa rfl (Qa rfl (Qa hK.cell Q4)))))) Q9 fun c1 _ _ K M=>?_;refine au 7 K M ?_;intro c2 _ _ K _ M;refine p1 K (ZK zZ I3 Xb Gk rfl rfl) fun _ K=>?_;refine au 1 K M ?_;intro _ _ K _ M;refine Qb 0 K M ?_;exact⟨rfl,M.qt⟩

theorem qw{R:Ee}{st:St}(hf:Qi st)(hR:Y8 R st.h.get){a:Int}(hr:ZO R (.mk o a b g n l) cs){m:Int}(hc:QX (.mk o a b g n l) m=true): ∃v st',Jh 104 [.agg cs,iZ m] st v st'∧v=.bool true∧Qt st st':=by
 have hr0:=hr;obtain⟨kc,ls,rfl,hK⟩:=hr.U5;have hln:=hK.ln;have hbn:=hK.Wv;obtain⟨vn,bn,kn,hsh,hv0,hv3,hk,hn1,hn2,hn0,hvar,hex⟩:=Dc hc;have B:=Qk.start hf;refine JA Tryz.func104 Tryz.ntmps104 fun T K=>?_;have M:=B.mem;refine Qb 0 K M fun _ K=>?_;refine Ju K M rfl (Qa rfl (Qa rfl (Qa rfl (Qa rfl (Qa rfl (Qa hK.cell Q4)))))) Q9 fun c2 _ _ K M=>?_;refine Qb 1 K M fun _ K=>?_;refine QC (l:=[(0,0),(1,0),(2,1),(3,0),(4,0),(5,0),(7,0),(8,0),(6,0),(9,0)]) (by kernel_rfl) ?_;have Mq:=M;replace B:=B.step M;obtain⟨v10,st10,ev10,cm,rfl,hmp,nfm,q10⟩:=Mo B.fresh;refine qA rfl K (Qg rfl ev10) fun _ K=>?_;replace B:=B.new (o:=Wo cm LO Ej) q10 hmp nfm;have M:=B.mem;have Mp:=Mq;have Mq:=M;refine Jo 1 K M fun _ K=>?_;refine Jt rfl K rfl (M.load (k:=0) rfl (Qd I5 rfl)) (Mp.load (k:=0) rfl (Qd I5 rfl)) (JQ rfl) rfl Q9 fun _ K=>?_;refine qA rfl K (WI (a:=o) YB ((B.step M).at_ (k:=0) rfl) rfl rfl) fun _ K=>?_;rw[hsh]at K;refine Jo 2 K M fun _ K=>?_;refine W6 rfl K M Wh Q9 fun c5 _ _ K M=>?_;refine Vx (k:=0) rfl K M rfl rfl rfl FC rfl rfl rfl fun _ M=>?_;have Mp:=Mq;have Mq:=M;refine Jo 2 K M fun _ K=>?_;refine QF ?_;show W _ _ _ _ _ _ _;refine Jz ?_;refine CI (J:=fun T st9=>QT [(1,iZ m),(2,.ptr c2 0 0),(4,.bool false),(5,.ptr c5 0 0),(45,.bool (decide (20<n)))] T∧Qk st Xi st9 [(c5,0,[iZ vn,.bool bn,iZ kn]),(c2,0,[.str o,iZ a,iZ b,iZ g,iZ n,kc])] [Wo cm LO Ej]) ?_ (fun T st9 hJ=>?_)
 ·refine Qb 5 K M fun _ K=>?_;refine pg K rfl rfl (Q5 JY rfl rfl hK.len) fun _ K=>?_;refine Qb 4 K M fun _ K=>?_;refine zI K rfl (fun _ e26 K=>?_) fun _ e26 K=>?_
  · refine Qb 3 K M fun _ K=>?_;refine fQ K rfl rfl (Q0 rfl) rfl fun b30 _ e30 K=>?_;cases b30
    · replace e30:(bn)=true:=by simpa using e30
      refine Qb 10 K M fun _ K=>?_;refine Uj K rfl (fun _ e41 K=>?_) fun _ e41 K=>?_
      · refine Qb 4 K M fun _ K=>?_;exact⟨(K.sub rfl),(B.step M).less (.refl _)⟩
      exfalso;omega
    replace e30:(bn)=false:=by simpa using e30
    refine Qb 5 K M fun _ K=>?_;refine zI K rfl (fun _ e36 K=>?_) fun _ e36 K=>?_
    · refine Qb 4 K M fun _ K=>?_;refine Uj K rfl (fun _ e41 K=>?_) fun _ e41 K=>?_
      · refine Qb 4 K M fun _ K=>?_;exact⟨(K.sub rfl),(B.step M).less (.refl _)⟩
      exfalso;omega
    exfalso;first|omega|(have:=hn0 (by simpa using e30);omega)
  exfalso;omega
 obtain⟨K,B⟩:=hJ;have M:=B.mem;refine Jy K rfl (fun h45=>?_) fun h45=>?_
 ·exfalso;omega
 refine Qb 1 K M fun _ K=>?_;refine oQ K M (zT M.fresh (fun c m l hr=>(B.step M).UI hf (hR c m l hr) id) hr0) rfl rfl fun _ _ K M=>?_;refine Qb 1 K M fun _ K=>?_;refine QY (fun mm1 T st9=> ∃(i:Nat),mm1=3-i∧QT [(1,iZ m),(2,.ptr c2 0 0),(5,.ptr c5 0 0),(47,.agg [iZ a,iZ b,iZ g]),(48,iN i)] T∧Qk st Xi st9 [(c5,0,[iZ vn,.bool bn,iZ kn]),(c2,0,[.str o,iZ a,iZ b,iZ g,iZ n,kc])] [Wo cm LO Ej]∧i≤3) (fun mm1 T st9 hI=>?_) _ _ _ ⟨0,rfl,(K.sub rfl),(B.step M).less (.refl _),Qc⟩;obtain⟨i,rfl,K,B,hi⟩:=hI;have M:=B.mem;refine Qb 1 K M fun _ K=>?_;refine Jy K rfl (fun h49=>?_) fun h49=>?_
 ·refine Qb 1 K M fun _ K=>?_;have hx51:=ao a b g (i:=i) Qc;refine p1 K (MG (j:=i) rfl rfl Qc hx51) fun _ K=>?_;refine Qb 6 K M fun _ K=>?_;refine Uj K rfl (fun _ e57 K=>?_) fun _ e57 K=>?_
  · refine Qb 9 K M fun _ K=>?_;refine Uj K rfl (fun _ e66 K=>?_) fun _ e66 K=>?_
    · refine Qb 17 K M fun _ K=>?_;exact⟨_,Qc,i+1,rfl,(K.sub rfl),(B.step M).less (.refl _),Qc⟩
    refine Qb 2 K M fun _ K=>?_;refine pg K rfl rfl (ID (b:=[101,120]) rfl rfl) fun _ K=>?_;refine Qb 1 K M fun _ K=>?_;refine zI K rfl (fun _ e71 K=>?_) fun _ e71 K=>?_
    · refine Qb 12 K M fun _ K=>?_;exact⟨_,Qc,i+1,rfl,(K.sub rfl),(B.step M).less (.refl _),Qc⟩
    refine Qb 2 K M fun _ K=>?_;refine Nx K rfl rfl (Q0 rfl) rfl (fun _ e74 K=>?_) fun _ e74 K=>?_
    · refine Qb 6 K M fun _ K=>?_;refine Qp (K.QG rfl) (fun h61=>?_) (fun h61=>?_)
      · have hb61:=h61;replace h61:=of_decide_eq_true h61;refine Qb 1 K M ?_
        exfalso
        first
         |omega
         |(have h:=(hvar i Qc).1 Qc;omega)
         |(have h:=(hvar i Qc).2 Qc (by assumption);omega)
         |(have h:=hex (by first|assumption|(apply Classical.byContradiction;assumption));omega)
      have hb61:=h61;replace h61:=of_decide_eq_false h61;refine Qb 2 K M fun _ K=>?_;exact⟨_,Qc,i+1,rfl,(K.sub rfl),(B.step M).less (.refl _),Qc⟩
    refine Qb 8 K M ?_
    exfalso
    first
     |omega
     |(have h:=(hvar i Qc).1 Qc;omega)
     |(have h:=(hvar i Qc).2 Qc (by assumption);omega)
     |(have h:=hex (by first|assumption|(apply Classical.byContradiction;assumption));omega)
  refine Qb 4 K M fun _ K=>?_;refine Qp (K.QG rfl) (fun h52=>?_) (fun h52=>?_)
  · have hb52:=h52
    replace h52: ¬((UY a b g i)=0):=by first|exact of_decide_eq_false h52|exact yF h52|simpa using h52
    refine Qb 1 K M ?_
    exfalso
    first
     |omega
     |(have h:=(hvar i Qc).1 Qc;omega)
     |(have h:=(hvar i Qc).2 Qc (by assumption);omega)
     |(have h:=hex (by first|assumption|(apply Classical.byContradiction;assumption));omega)
  have hb52:=h52
  replace h52:((UY a b g i)=0):=by first|exact of_decide_eq_true h52|exact yT h52|simpa using h52
  refine Qb 4 K M fun _ K=>?_;refine Uj K rfl (fun _ e66 K=>?_) fun _ e66 K=>?_
  · refine Qb 17 K M fun _ K=>?_;exact⟨_,Qc,i+1,rfl,(K.sub rfl),(B.step M).less (.refl _),Qc⟩
  refine Qb 2 K M fun _ K=>?_;refine pg K rfl rfl (ID (b:=[101,120]) rfl rfl) fun _ K=>?_;refine Qb 1 K M fun _ K=>?_;refine zI K rfl (fun _ e71 K=>?_) fun _ e71 K=>?_
  · refine Qb 12 K M fun _ K=>?_;exact⟨_,Qc,i+1,rfl,(K.sub rfl),(B.step M).less (.refl _),Qc⟩
  refine Qb 2 K M fun _ K=>?_;refine Nx K rfl rfl (Q0 rfl) rfl (fun _ e74 K=>?_) fun _ e74 K=>?_
  · refine Qb 6 K M fun _ K=>?_;refine Qp (K.QG rfl) (fun h61=>?_) (fun h61=>?_)
    · have hb61:=h61;replace h61:=of_decide_eq_true h61;refine Qb 1 K M ?_
      exfalso
      first
       |omega
       |(have h:=(hvar i Qc).1 Qc;omega)
       |(have h:=(hvar i Qc).2 Qc (by assumption);omega)
       |(have h:=hex (by first|assumption|(apply Classical.byContradiction;assumption));omega)
    have hb61:=h61;replace h61:=of_decide_eq_false h61;refine Qb 2 K M fun _ K=>?_;exact⟨_,Qc,i+1,rfl,(K.sub rfl),(B.step M).less (.refl _),Qc⟩
  refine Qb 8 K M ?_
  exfalso
  first
   |omega
   |(have h:=(hvar i Qc).1 Qc;omega)
   |(have h:=(hvar i Qc).2 Qc (by assumption);omega)
   |(have h:=hex (by first|assumption|(apply Classical.byContradiction;assumption));omega)
 refine QM ?_;show W _ _ _ _ _ _ _;refine Qb 2 K M fun _ K=>?_;refine p1 K (ID (b:=[101,120]) rfl rfl) fun _ K=>?_;refine zI K rfl (fun _ e84 K=>?_) fun _ e84 K=>?_
 ·refine Qb 4 K M fun _ K=>?_;refine Nx K rfl rfl (Q0 rfl) rfl (fun _ e89 K=>?_) fun _ e89 K=>?_
  · refine Qb 5 K M ?_
    exfalso
    first
     |omega
     |(have h:=(hvar i Qc).1 Qc;omega)
     |(have h:=(hvar i Qc).2 Qc (by assumption);omega)
     |(have h:=hex (by first|assumption|(apply Classical.byContradiction;assumption));omega)
  refine Qb 5 K M ?_;refine⟨congrArg AV.bool (decide_eq_true ?_),(B.step M).qt⟩;exact(hex (by first|assumption|(apply Classical.byContradiction;assumption))).2
 refine Qb 10 K M ?_;exact⟨rfl,(B.step M).qt⟩

theorem qj{R:Ee}{st:St}(hf:Qi st)(hR:Y8 R st.h.get){kc:AV}{ls:List (List AV)}(hK:Ze R l kc ls){fo:FuncId}{fa fc:List AV}(hC: ∀(k:Cr) (cs:List AV),k∈l→ZO R k cs→ ∀(st1:St),Qt st st1→ ∃v st',Jh fo (fa++([.agg cs]++fc)) st1 v st'∧v=.bool false∧Qt st1 st'): ∃v st',Jh 135 [kc,(.fn fo fa fc)] st v st'∧v=iZ (-1)∧Qt st st':=by
 have hbn:=hK.Wv;refine JA Tryz.func135 Tryz.ntmps135 fun T K=>?_;have M:=Mem.start hf;refine Qb 2 K M fun _ K=>?_;refine p1 K (Q5 JY rfl rfl hK.len) fun _ K=>?_;refine Qb 1 K M fun _ K=>?_;refine QY (fun mm1 T st9=> ∃(i:Nat),mm1=l.length-i∧QT [(0,kc),(1,(.fn fo fa fc)),(7,iZ (l.length:Nat)),(8,iN i)] T∧Mem st.h.get st.n [] st9 []∧i≤l.length) (fun mm1 T st9 hI=>?_) _ _ _ ⟨0,rfl,(K.sub rfl),M.less (.refl _),(Nat.zero_le _)⟩;obtain⟨i,rfl,K,M,hi⟩:=hI;refine Qb 1 K M fun _ K=>?_;refine Jy K rfl (fun h9=>?_) fun h9=>?_
 ·refine Qb 5 K M fun _ K=>?_;obtain⟨⟨o14,a14,b14,g14,n14,l14⟩,hi14⟩: ∃k,l[i]? =some k:=⟨_,List.getElem?_eq_getElem Qc⟩;have hm14:=VG hi14;obtain⟨_,hc14,hn14⟩:=hK.get hi14;have hp14:=hn14;obtain⟨kc14,ls14,rfl,hK14⟩:=hp14.U5;refine Ts (hK.r (M.Y8 hR)) hc14 K Jn Jg rfl rfl fun _ _ _ _ K=>?_;obtain⟨v16,st16,ev16,rfl,q16⟩:=hC _ _ hm14 hn14 _ M.qt;refine p1 K (ZW rfl rfl ev16) fun _ K=>?_;replace M:=M.quiet q16;refine Qb 3 K M fun _ K=>?_;exact⟨_,Qc,i+1,rfl,(K.sub rfl),M.less (.refl _),Qc⟩
 refine QM ?_;show W _ _ _ _ _ _ _;refine Qb 1 K M ?_;exact⟨rfl,M.qt⟩

theorem Is{R:Ee}{st:St}(hf:Qi st)(hR:Y8 R st.h.get){kc:AV}{ls:List (List AV)}(hK:Ze R l kc ls){fo:FuncId}{fa fc:List AV}(hC: ∀(k:Cr) (cs:List AV),k∈l→ZO R k cs→ ∀(st1:St),Qt st st1→ ∃v st',Jh fo (fa++([.agg cs]++fc)) st1 v st'∧v=.bool false∧Qt st1 st'): ∃v st',Jh 105 [kc,(.fn fo fa fc)] st v st'∧v=.bool false∧Qt st st':=by
 refine JA Tryz.func105 Tryz.ntmps105 fun T K=>?_;have M:=Mem.start hf;refine Qb 3 K M fun _ K=>?_;refine oQ K M (qj M.fresh (M.Y8 hR) hK (fun k cs hm hk st1 q=>hC k cs hm hk st1 (M.qt.trans q))) rfl rfl fun _ _ K M=>?_;refine Qb 2 K M ?_;exact⟨rfl,M.qt⟩

theorem TC{R:Ee}{st:St}(hf:Qi st)(hR:Y8 R st.h.get){k:Cr}(hr:ZO R k cs){c3:Nat}{m:Int}(h3:Qy st.h.get c3 0 [iZ m])(ih: ∀(st1:St),Qt st st1→Y8 R st1.h.get→ ∃v st',Jh 78 [.agg cs,iZ m] st1 v st'∧v=.bool true∧Qt st1 st'): ∃v st',Jh 106 [.agg cs,.ptr c3 0 0] st v st'∧v=.bool false∧Qt st st':=by
 have hp:=hr;obtain⟨o,a,b,g,n,l,kc,ls,rfl,rfl,hK⟩:=hp.zH;refine JA Tryz.func106 Tryz.ntmps106 fun T K=>?_;have M:=Mem.start hf;refine Qb 0 K M fun _ K=>?_;refine Ju K M rfl (Qa rfl (Qa rfl (Qa rfl (Qa rfl (Qa rfl (Qa hK.cell Q4)))))) Q9 fun c2 _ _ K M=>?_;refine Qb 2 K M fun _ K=>?_;refine p1 K (Qf rfl (Qx (M.JH Q7 h3.Jd) (Qd Qn rfl))) fun _ K=>?_;refine oQ K M (ih _ M.qt (M.Y8 hR)) rfl rfl fun _ _ K M=>?_;refine Qb 2 K M ?_;exact⟨rfl,M.qt⟩

theorem vA(x:Cr): ∀(m:Int) (R:Ee) (st:St) (cs:List AV),Qi st→Y8 R st.h.get→ZO R x cs→QX x m=true→ -100≤m→m≤100→ ∃v st',Jh 78 [.agg cs,iZ m] st v st'∧v=.bool true∧Qt st st':=by
 refine E7 (M:=fun x=> ∀(m:Int) (R:Ee) (st:St) (cs:List AV),Qi st→Y8 R st.h.get→ZO R x cs→QX x m=true→ -100≤m→m≤100→ ∃v st',Jh 78 [.agg cs,iZ m] st v st'∧v=.bool true∧Qt st st') (fun o a b g n l ih=>?_) x;intro m R st cs hf hR hr hc hm1 hm2;have hr0:=hr;obtain⟨kc,ls,rfl,hK⟩:=hr.U5;have hln:=hK.ln;have hbn:=hK.Wv;refine JA Tryz.func78 Tryz.ntmps78 fun T K=>?_;have M:=Mem.start hf;refine Qb 0 K M fun _ K=>?_;refine Ju K M rfl (Qa rfl (Qa rfl (Qa rfl (Qa rfl (Qa rfl (Qa hK.cell Q4)))))) Q9 fun c2 _ _ K M=>?_;refine au 4 K M ?_;intro c3 _ _ K _ M;refine oQ K M (qw M.fresh (M.Y8 hR) hr0 hc) rfl rfl fun _ _ K M=>?_;refine Qb 4 K M fun _ K=>?_;refine p1 K (QU (b:=[101,120]) rfl rfl) fun _ K=>?_;refine Qb 0 K M fun _ K=>?_;refine Jy K rfl (fun h11=>?_) fun h11=>?_
 ·have hcx:=hc;rw[QX,if_pos h11]at hcx;simp only[Bool.and_eq_true,decide_eq_true_eq]at hcx;obtain⟨_,_,_,_,hm6,_,_,hcl⟩:=hcx;refine au 5 K M ?_;intro _ _ K _ M;refine p1 K (X1 rfl rfl) fun _ K=>?_;have r3:=M.Yb (k:=0) rfl;obtain⟨v17,st17,ev17,rfl,q17⟩:=Is (R:=R) M.fresh (M.Y8 hR) hK (fo:=106) (fa:=[]) (fc:=[.ptr c3 0 0]) (fun k cs hm hk st1 q=>TC (m:=(m+1)) q.fresh (fun c m l hr=>by obtain⟨ro,e,vs,ms,h2,h3⟩:=M.Y8 hR c m l hr;exact⟨ro,e,vs,ms,by rw[q.JB c (Nat.lt_of_not_le fun hle=>by rw[M.fresh c hle]at h2;cases h2)];exact h2,h3⟩) hk (r3.frame (q.JB c3 (r3.lt M.fresh))) (fun st2 q2 hR2=>ih k hm _ R _ _ q2.fresh hR2 hk (Ea hcl hm) Qc Qc));refine p1 K (Qg rfl ev17) fun _ K=>?_;replace M:=M.quiet q17;refine Qb 2 K M ?_;exact⟨rfl,M.qt⟩
 refine Qb 0 K M fun _ K=>?_;have hcx:=hc;rw[QX,if_neg h11]at hcx;simp only[Bool.and_eq_true,decide_eq_true_eq]at hcx;obtain⟨_,_,_,_,_,_,hcl⟩:=hcx;refine Qb 2 K M fun _ K=>?_;refine p1 K (X1 rfl rfl) fun _ K=>?_;have r3:=M.Yb (k:=0) rfl;obtain⟨v17,st17,ev17,rfl,q17⟩:=Is (R:=R) M.fresh (M.Y8 hR) hK (fo:=106) (fa:=[]) (fc:=[.ptr c3 0 0]) (fun k cs hm hk st1 q=>TC (m:=m) q.fresh (fun c m l hr=>by obtain⟨ro,e,vs,ms,h2,h3⟩:=M.Y8 hR c m l hr;exact⟨ro,e,vs,ms,by rw[q.JB c (Nat.lt_of_not_le fun hle=>by rw[M.fresh c hle]at h2;cases h2)];exact h2,h3⟩) hk (r3.frame (q.JB c3 (r3.lt M.fresh))) (fun st2 q2 hR2=>ih k hm _ R _ _ q2.fresh hR2 hk (Ea hcl hm) Qc Qc));refine p1 K (Qg rfl ev17) fun _ K=>?_;replace M:=M.quiet q17;refine Qb 2 K M ?_;exact⟨rfl,M.qt⟩

theorem TO{R:Ee}{st:St}(hf:Qi st)(hR:Y8 R st.h.get){a:Int}(hr:ZO R (.mk o a b g n l) cs){m:Int}(h0:0≤m)(h6:m≤6)(hsz:XZ (.mk o a b g n l)≤2000)(hc:QX (.mk o a b g n l) m=true): ∃v st',Jh 53 [.agg cs,iZ m] st v st'∧v=.bool true∧Qt st st':=by
 have hr0:=hr;obtain⟨kc,ls,rfl,hK⟩:=hr.U5;have hln:=hK.ln;have hbn:=hK.Wv;refine JA Tryz.func53 Tryz.ntmps53 fun T K=>?_;have M:=Mem.start hf;refine Qb 0 K M fun _ K=>?_;refine Ju K M rfl (Qa rfl (Qa rfl (Qa rfl (Qa rfl (Qa rfl (Qa hK.cell Q4)))))) Q9 fun c2 _ _ K M=>?_;refine Qb 3 K M fun _ K=>?_;refine Uj K rfl (fun _ e7 K=>?_) fun _ e7 K=>?_
 ·exfalso;omega
 refine Qb 3 K M fun _ K=>?_;refine Uj K rfl (fun _ e11 K=>?_) fun _ e11 K=>?_
 ·exfalso;omega
 refine Qb 1 K M fun _ K=>?_;obtain⟨v13,st13,ev13,rfl,q13⟩:=qF M.fresh (M.Y8 hR) hr0;refine pg K rfl rfl (Qg rfl ev13) fun _ K=>?_;replace M:=M.quiet q13;refine Qb 2 K M fun _ K=>?_;refine Uj K rfl (fun _ e16 K=>?_) fun _ e16 K=>?_
 ·exfalso;omega
 refine Qb 2 K M fun _ K=>?_;obtain⟨v19,st19,ev19,rfl,q19⟩:=vA (.mk o a b g n l) m R _ _ M.fresh (M.Y8 hR) hr0 hc Qc Qc;refine pg K rfl rfl (Qg rfl ev19) fun _ K=>?_;replace M:=M.quiet q19;refine Qb 2 K M ?_;exact⟨rfl,M.qt⟩
end Go.Proofs.YtiknomepbklibaaGreatDoor
