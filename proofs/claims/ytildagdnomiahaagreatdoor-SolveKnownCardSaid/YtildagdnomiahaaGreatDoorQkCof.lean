/-
  Core formulas that may be: the program says so.
-/
import Derived.Test.YtildagdnomiahaaGreatDoorQkCor
namespace Go.Proofs.YtildagdnomiahaaGreatDoor
open Go Go.RowKit
set_option maxHeartbeats 8000000
set_option linter.unusedVariables false
set_option linter.unusedSimpArgs false
set_option linter.unnecessarySimpa false
set_option linter.unusedSectionVars false
set_option maxRecDepth 100000
variable {b g n:Int} {cs:List AV} {l:List Cr} {o:List Nat}

abbrev Ko(x:List Nat):AV:=.str x
theorem zh:Tryz.prog.underlying 280=some (.map 9 278):=by kernel_rfl
theorem zm:Tryz.prog.underlying 282=some (.array 3 3):=by kernel_rfl
theorem ve:Vr Tryz.prog 282=some (3,3):=by kernel_rfl
abbrev sh(v:Int)(b:Bool)(k:Int):AV:=.agg [.int .i64 v,.bool b,.int .i64 k]
theorem UG:XQ Tryz.prog 280 Ko (sh 0 false 0):=⟨9,278,.string,zh,Hd,by kernel_rfl,fun a=>rfl,fun a i=>rfl,fun a b v n es i=>by
 have e:U7 Tryz.prog 9 .string (Ko a) ((Ko b,v,n)::es) i=Qj (Ot a b) (some (some (i,v))) (U7 Tryz.prog 9 .string (Ko a) es (i+1)):=by
  refine(XH .string (Ko a) (Ko b,v,n) es i).trans ?_;show ob (some (Ot a b)) _=_;rw[Qf];rfl
 rw[e,Zm]
 exact⟨fun h=>by rw[decide_eq_true h];rfl,fun h=>by rw[decide_eq_false h];rfl⟩⟩
section
variable {α:Type} {key:α→AV} {P:Program} {G:Env} {N:Nat} {st0 st:St} {X0:Fp} {M:QK} {Os:List Ob} {T:Tr AV} {ops rest:List Oper} {K:List (Nat×AV)} {R:Tr AV→St→Prop} {t ty:TypeId} {pos:String} {af:Array Edge} {z:AV} {vl:List AV} {cm j:Nat} {L:List (α×AV)} {a:α} {m k x:Operand}
theorem zW(Tk:XQ P t key z){n:Nat}{es:List (AV×AV×Nat)}(hc:st.h.get cm=some (.map es n))(he:LW key es L)(hm:QE G K m=some (.mp cm))(hk:QE G K k=some (key a))(hx:QE G K x=some (.agg vl))(hn:U1 L a=none):
  Uk P G K (.insert t m k x) st (.tup []) (WT st cm n es (key a) (.agg vl)):=.of fun T' hT c d ty pos af g=>by
 obtain⟨kt,et,d',u1,u2,u3,u4,u5,u6⟩:=Tk.rule;show(ob (QI G T' m) fun m=>ob (QI G T' k) fun k=>ob (QI G T' x) fun x=>YC P t m k x st)=_;rw[hT.QI hm,hT.QI hk,hT.QI hx,Qf,Qf,Qf];unfold YC WT;obtain⟨f1,f2⟩:=XQ.find (P:=P) (t:=t) (z:=z) (et:=et) u5 u6 a L es 0 he;simp only[u1,u2,u4,Q6,hc,Qf,f1 hn,Bool.or_true,Ju,J9,QC,JY]
theorem UZ(hK:QG K T)(B:Ql st0 X0 st M Os)(hj:Os[j]? =some (Vn cm key L))(Tk:XQ P t key z)(hm:QE G K m=some (.mp cm))(hk:QE G K k=some (key a))(hx:QE G K x=some (.agg vl))(hn:U1 L a=none)
  (hr: ∀st',Ql st0 X0 st' M (Os.set j (Vn cm key (L++[(a,.agg vl)])))→WR P G N ops rest R T st'):WR P G N ops (⟨none,.insert t m k x,ty,pos,af,none⟩::rest) R T st:=by
 obtain⟨es,n,hc,he⟩:=B.at_ hj;exact Rr hK (zW Tk hc he hm hk hx hn) (hr _ (B.G7 hj hc he a (.agg vl)))
end
def Wf:List (List Nat×AV):=[([116,114,117,101],sh 0 false 0),([115,117,98],sh 2 false 0),([115,105,110,103],sh 1 false 0),([102,108,97,103],sh 1 false 0),([110,111,110,101],sh 1 false 0),([108,101,115,115],sh 2 false 0),([112,108,117,115],sh 2 true 0),([110,117,109],sh 1 true 0),([117,110,105,111,110],sh 3 false 0),([105,110,116,101,114],sh 3 false 0),([109,105,110,117,115],sh 3 false 0),([110,111,116],sh 0 false 1),([97,110,100],sh 0 false 2),([101,120],sh 1 false 1)]
def Ug(a b g:Int)(i:Nat):Int:=if i=0 then a else if i=1 then b else g
theorem aM(a b g:Int){i:Nat}(h:i<3):([AV.int .i64 a,.int .i64 b,.int .i64 g]:List AV)[i]? =some (.int .i64 (Ug a b g i)):=by
 match i,h with
 |0,_=>rfl
 |1,_=>rfl
 |2,_=>rfl
theorem Ts{G:Env}{K:List (Nat×AV)}{st:St}{x i:Operand}{l:List AV}{j:Nat}{v:AV}(hx:QE G K x=some (.agg l))(hi:QE G K i=some (.int .i64 (j:Nat)))(hj:j<3)(hv:l[j]? =some v):Uk Tryz.prog G K (.index 282 x i) st v st:=.of fun T hT cc d ty pos af g=>by
 show ret (ob (QI G T x) fun x=>ob (QI G T i) fun i=>Az Tryz.prog 282 x i) st=_;rw[hT.QI hx,hT.QI hi,Qf,Qf];unfold Az;show ret (ob (Vr Tryz.prog 282) fun q=>ob (B7 ((j:Nat):Int)) fun i=>Q4 (Nat.ble (i+1) q.1) (Y4 Tryz.prog q.2 l (i *Tryz.prog.cellsOf q.2))) st=_;rw[ve,Qf,show B7 ((j:Nat):Int)=some j from rfl,Qf,Zn,Nat.mul_one,show Nat.ble (j+1) 3=true from Nat.ble_eq_true_of_le hj,Q6];unfold Y4;rw[Qr];show ret (nth l j) st=_;rw[JO,hv];rfl
theorem BO{a m:Int}(h:J0 (.mk o a b g n l) m=true): ∃vn bn kn,U1 Wf o=some (sh vn bn kn)∧0≤vn∧vn≤3∧((l.length:Nat):Int)=kn∧0≤n∧n<21∧(bn=false→n=0)∧(∀i:Nat,i<3→(vn≤i→Ug a b g i=0)∧((i:Int)<vn→o≠[101,120]→0≤Ug a b g i∧Ug a b g i<m))∧(o=[101,120]→a=m∧m<6):=by
 have hi: ∀{P:Nat→Prop},P 0→P 1→P 2→ ∀i,i<3→P i:=fun h0 h1 h2 i hi=>by
  match i,hi with
  |0,_=>exact h0
  |1,_=>exact h1
  |2,_=>exact h2
 rw[J0]at h;simp only[Bool.and_eq_true,decide_eq_true_eq]at h;obtain⟨h1,h2,h3,h4⟩:=h
 by_cases e0:o=[116,114,117,101]
 ·subst e0;have h2:((l.length:Nat):Int)=0:=h2.trans QA;simp[Z5,UX]at h3 h4;exact⟨0,false,0,by simp[U1,Wf],by omega,by omega,h2,by omega,by omega,(fun hb=>by first|omega|cases hb),hi ⟨(fun h=>by simp only[Ug];first|omega|simp_all),(fun h e=>by simp only[Ug];first|omega|(simp at e;done)|simp_all)⟩ ⟨(fun h=>by simp only[Ug];first|omega|simp_all),(fun h e=>by simp only[Ug];first|omega|(simp at e;done)|simp_all)⟩ ⟨(fun h=>by simp only[Ug];first|omega|simp_all),(fun h e=>by simp only[Ug];first|omega|(simp at e;done)|simp_all)⟩,fun e=>by first|(simp at e;done)|omega|simp_all⟩
 by_cases e1:o=[115,117,98]
 ·subst e1;have h2:((l.length:Nat):Int)=0:=h2.trans QA;simp[Z5,UX]at h3 h4;exact⟨2,false,0,by simp[U1,Wf],by omega,by omega,h2,by omega,by omega,(fun hb=>by first|omega|cases hb),hi ⟨(fun h=>by simp only[Ug];first|omega|simp_all),(fun h e=>by simp only[Ug];first|omega|(simp at e;done)|simp_all)⟩ ⟨(fun h=>by simp only[Ug];first|omega|simp_all),(fun h e=>by simp only[Ug];first|omega|(simp at e;done)|simp_all)⟩ ⟨(fun h=>by simp only[Ug];first|omega|simp_all),(fun h e=>by simp only[Ug];first|omega|(simp at e;done)|simp_all)⟩,fun e=>by first|(simp at e;done)|omega|simp_all⟩
 by_cases e2:o=[115,105,110,103]
 ·subst e2;have h2:((l.length:Nat):Int)=0:=h2.trans QA;simp[Z5,UX]at h3 h4;exact⟨1,false,0,by simp[U1,Wf],by omega,by omega,h2,by omega,by omega,(fun hb=>by first|omega|cases hb),hi ⟨(fun h=>by simp only[Ug];first|omega|simp_all),(fun h e=>by simp only[Ug];first|omega|(simp at e;done)|simp_all)⟩ ⟨(fun h=>by simp only[Ug];first|omega|simp_all),(fun h e=>by simp only[Ug];first|omega|(simp at e;done)|simp_all)⟩ ⟨(fun h=>by simp only[Ug];first|omega|simp_all),(fun h e=>by simp only[Ug];first|omega|(simp at e;done)|simp_all)⟩,fun e=>by first|(simp at e;done)|omega|simp_all⟩
 by_cases e3:o=[102,108,97,103]
 ·subst e3;have h2:((l.length:Nat):Int)=0:=h2.trans QA;simp[Z5,UX]at h3 h4;exact⟨1,false,0,by simp[U1,Wf],by omega,by omega,h2,by omega,by omega,(fun hb=>by first|omega|cases hb),hi ⟨(fun h=>by simp only[Ug];first|omega|simp_all),(fun h e=>by simp only[Ug];first|omega|(simp at e;done)|simp_all)⟩ ⟨(fun h=>by simp only[Ug];first|omega|simp_all),(fun h e=>by simp only[Ug];first|omega|(simp at e;done)|simp_all)⟩ ⟨(fun h=>by simp only[Ug];first|omega|simp_all),(fun h e=>by simp only[Ug];first|omega|(simp at e;done)|simp_all)⟩,fun e=>by first|(simp at e;done)|omega|simp_all⟩
 by_cases e4:o=[110,111,110,101]
 ·subst e4;have h2:((l.length:Nat):Int)=0:=h2.trans QA;simp[Z5,UX]at h3 h4;exact⟨1,false,0,by simp[U1,Wf],by omega,by omega,h2,by omega,by omega,(fun hb=>by first|omega|cases hb),hi ⟨(fun h=>by simp only[Ug];first|omega|simp_all),(fun h e=>by simp only[Ug];first|omega|(simp at e;done)|simp_all)⟩ ⟨(fun h=>by simp only[Ug];first|omega|simp_all),(fun h e=>by simp only[Ug];first|omega|(simp at e;done)|simp_all)⟩ ⟨(fun h=>by simp only[Ug];first|omega|simp_all),(fun h e=>by simp only[Ug];first|omega|(simp at e;done)|simp_all)⟩,fun e=>by first|(simp at e;done)|omega|simp_all⟩
 by_cases e5:o=[108,101,115,115]
 ·subst e5;have h2:((l.length:Nat):Int)=0:=h2.trans QA;simp[Z5,UX]at h3 h4;exact⟨2,false,0,by simp[U1,Wf],by omega,by omega,h2,by omega,by omega,(fun hb=>by first|omega|cases hb),hi ⟨(fun h=>by simp only[Ug];first|omega|simp_all),(fun h e=>by simp only[Ug];first|omega|(simp at e;done)|simp_all)⟩ ⟨(fun h=>by simp only[Ug];first|omega|simp_all),(fun h e=>by simp only[Ug];first|omega|(simp at e;done)|simp_all)⟩ ⟨(fun h=>by simp only[Ug];first|omega|simp_all),(fun h e=>by simp only[Ug];first|omega|(simp at e;done)|simp_all)⟩,fun e=>by first|(simp at e;done)|omega|simp_all⟩
 by_cases e6:o=[112,108,117,115]
 ·subst e6;have h2:((l.length:Nat):Int)=0:=h2.trans QA;simp[Z5,UX]at h3 h4;exact⟨2,true,0,by simp[U1,Wf],by omega,by omega,h2,by omega,by omega,(fun hb=>by first|omega|cases hb),hi ⟨(fun h=>by simp only[Ug];first|omega|simp_all),(fun h e=>by simp only[Ug];first|omega|(simp at e;done)|simp_all)⟩ ⟨(fun h=>by simp only[Ug];first|omega|simp_all),(fun h e=>by simp only[Ug];first|omega|(simp at e;done)|simp_all)⟩ ⟨(fun h=>by simp only[Ug];first|omega|simp_all),(fun h e=>by simp only[Ug];first|omega|(simp at e;done)|simp_all)⟩,fun e=>by first|(simp at e;done)|omega|simp_all⟩
 by_cases e7:o=[110,117,109]
 ·subst e7;have h2:((l.length:Nat):Int)=0:=h2.trans QA;simp[Z5,UX]at h3 h4;exact⟨1,true,0,by simp[U1,Wf],by omega,by omega,h2,by omega,by omega,(fun hb=>by first|omega|cases hb),hi ⟨(fun h=>by simp only[Ug];first|omega|simp_all),(fun h e=>by simp only[Ug];first|omega|(simp at e;done)|simp_all)⟩ ⟨(fun h=>by simp only[Ug];first|omega|simp_all),(fun h e=>by simp only[Ug];first|omega|(simp at e;done)|simp_all)⟩ ⟨(fun h=>by simp only[Ug];first|omega|simp_all),(fun h e=>by simp only[Ug];first|omega|(simp at e;done)|simp_all)⟩,fun e=>by first|(simp at e;done)|omega|simp_all⟩
 by_cases e8:o=[117,110,105,111,110]
 ·subst e8;have h2:((l.length:Nat):Int)=0:=h2.trans QA;simp[Z5,UX]at h3 h4;exact⟨3,false,0,by simp[U1,Wf],by omega,by omega,h2,by omega,by omega,(fun hb=>by first|omega|cases hb),hi ⟨(fun h=>by simp only[Ug];first|omega|simp_all),(fun h e=>by simp only[Ug];first|omega|(simp at e;done)|simp_all)⟩ ⟨(fun h=>by simp only[Ug];first|omega|simp_all),(fun h e=>by simp only[Ug];first|omega|(simp at e;done)|simp_all)⟩ ⟨(fun h=>by simp only[Ug];first|omega|simp_all),(fun h e=>by simp only[Ug];first|omega|(simp at e;done)|simp_all)⟩,fun e=>by first|(simp at e;done)|omega|simp_all⟩
 by_cases e9:o=[105,110,116,101,114]
 ·subst e9;have h2:((l.length:Nat):Int)=0:=h2.trans QA;simp[Z5,UX]at h3 h4;exact⟨3,false,0,by simp[U1,Wf],by omega,by omega,h2,by omega,by omega,(fun hb=>by first|omega|cases hb),hi ⟨(fun h=>by simp only[Ug];first|omega|simp_all),(fun h e=>by simp only[Ug];first|omega|(simp at e;done)|simp_all)⟩ ⟨(fun h=>by simp only[Ug];first|omega|simp_all),(fun h e=>by simp only[Ug];first|omega|(simp at e;done)|simp_all)⟩ ⟨(fun h=>by simp only[Ug];first|omega|simp_all),(fun h e=>by simp only[Ug];first|omega|(simp at e;done)|simp_all)⟩,fun e=>by first|(simp at e;done)|omega|simp_all⟩
 by_cases e10:o=[109,105,110,117,115]
 ·subst e10;have h2:((l.length:Nat):Int)=0:=h2.trans QA;simp[Z5,UX]at h3 h4;exact⟨3,false,0,by simp[U1,Wf],by omega,by omega,h2,by omega,by omega,(fun hb=>by first|omega|cases hb),hi ⟨(fun h=>by simp only[Ug];first|omega|simp_all),(fun h e=>by simp only[Ug];first|omega|(simp at e;done)|simp_all)⟩ ⟨(fun h=>by simp only[Ug];first|omega|simp_all),(fun h e=>by simp only[Ug];first|omega|(simp at e;done)|simp_all)⟩ ⟨(fun h=>by simp only[Ug];first|omega|simp_all),(fun h e=>by simp only[Ug];first|omega|(simp at e;done)|simp_all)⟩,fun e=>by first|(simp at e;done)|omega|simp_all⟩
 by_cases e11:o=[110,111,116]
 ·subst e11;have h2:((l.length:Nat):Int)=1:=h2.trans QA;simp[Z5,UX]at h3 h4;exact⟨0,false,1,by simp[U1,Wf],by omega,by omega,h2,by omega,by omega,(fun hb=>by first|omega|cases hb),hi ⟨(fun h=>by simp only[Ug];first|omega|simp_all),(fun h e=>by simp only[Ug];first|omega|(simp at e;done)|simp_all)⟩ ⟨(fun h=>by simp only[Ug];first|omega|simp_all),(fun h e=>by simp only[Ug];first|omega|(simp at e;done)|simp_all)⟩ ⟨(fun h=>by simp only[Ug];first|omega|simp_all),(fun h e=>by simp only[Ug];first|omega|(simp at e;done)|simp_all)⟩,fun e=>by first|(simp at e;done)|omega|simp_all⟩
 by_cases e12:o=[97,110,100]
 ·subst e12;have h2:((l.length:Nat):Int)=2:=h2.trans QA;simp[Z5,UX]at h3 h4;exact⟨0,false,2,by simp[U1,Wf],by omega,by omega,h2,by omega,by omega,(fun hb=>by first|omega|cases hb),hi ⟨(fun h=>by simp only[Ug];first|omega|simp_all),(fun h e=>by simp only[Ug];first|omega|(simp at e;done)|simp_all)⟩ ⟨(fun h=>by simp only[Ug];first|omega|simp_all),(fun h e=>by simp only[Ug];first|omega|(simp at e;done)|simp_all)⟩ ⟨(fun h=>by simp only[Ug];first|omega|simp_all),(fun h e=>by simp only[Ug];first|omega|(simp at e;done)|simp_all)⟩,fun e=>by first|(simp at e;done)|omega|simp_all⟩
 by_cases e13:o=[101,120]
 ·subst e13;have h2:((l.length:Nat):Int)=1:=h2.trans QA;simp[Z5,UX]at h3 h4;exact⟨1,false,1,by simp[U1,Wf],by omega,by omega,h2,by omega,by omega,(fun hb=>by first|omega|cases hb),hi ⟨(fun h=>by simp only[Ug];first|omega|simp_all),(fun h e=>by simp only[Ug];first|omega|(simp at e;done)|simp_all)⟩ ⟨(fun h=>by simp only[Ug];first|omega|simp_all),(fun h e=>by simp only[Ug];first|omega|(simp at e;done)|simp_all)⟩ ⟨(fun h=>by simp only[Ug];first|omega|simp_all),(fun h e=>by simp only[Ug];first|omega|(simp at e;done)|simp_all)⟩,fun e=>by first|(simp at e;done)|omega|simp_all⟩
 simp[Z5,Ne.symm, *]at h1

theorem Tb{st:St}(hf:Qh st): ∃v st',QP 241 [] st v st'∧ ∃cm,v=.mp cm∧(Vn cm Ko Wf).H st'.h.get∧XP st st' (fun c=>c=cm)∧Qt st st':=by
 have B:=Ql.start hf;refine Jy Tryz.func241 Tryz.ntmps241 fun T K=>?_;have M:=B.mem;refine Qa 1 K M fun _ K=>?_;replace B:=B.step M;refine Vy Ko K B rfl fun c1 _ _ K B=>?_;have M:=B.mem;refine Qa 1 K M fun _ K=>?_;replace B:=B.step M;refine UZ (j:=0) (a:=[116,114,117,101]) K B rfl UG rfl rfl rfl (by simp[U1]) fun _ B=>?_;have M:=B.mem;refine Qa 1 K M fun _ K=>?_;replace B:=B.step M;refine UZ (j:=0) (a:=[115,117,98]) K B rfl UG rfl rfl rfl (by simp[U1]) fun _ B=>?_;have M:=B.mem;refine Qa 1 K M fun _ K=>?_;replace B:=B.step M;refine UZ (j:=0) (a:=[115,105,110,103]) K B rfl UG rfl rfl rfl (by simp[U1]) fun _ B=>?_;have M:=B.mem;refine Qa 1 K M fun _ K=>?_;replace B:=B.step M;refine UZ (j:=0) (a:=[102,108,97,103]) K B rfl UG rfl rfl rfl (by simp[U1]) fun _ B=>?_;have M:=B.mem;refine Qa 1 K M fun _ K=>?_;replace B:=B.step M;refine UZ (j:=0) (a:=[110,111,110,101]) K B rfl UG rfl rfl rfl (by simp[U1]) fun _ B=>?_;have M:=B.mem;refine Qa 1 K M fun _ K=>?_;replace B:=B.step M;refine UZ (j:=0) (a:=[108,101,115,115]) K B rfl UG rfl rfl rfl (by simp[U1]) fun _ B=>?_;have M:=B.mem;refine Qa 1 K M fun _ K=>?_;replace B:=B.step M;refine UZ (j:=0) (a:=[112,108,117,115]) K B rfl UG rfl rfl rfl (by simp[U1]) fun _ B=>?_;have M:=B.mem;refine Qa 1 K M fun _ K=>?_;replace B:=B.step M;refine UZ (j:=0) (a:=[110,117,109]) K B rfl UG rfl rfl rfl (by simp[U1]) fun _ B=>?_;have M:=B.mem;refine Qa 1 K M fun _ K=>?_;replace B:=B.step M;refine UZ (j:=0) (a:=[117,110,105,111,110]) K B rfl UG rfl rfl rfl (by simp[U1]) fun _ B=>?_;have M:=B.mem;refine Qa 1 K M fun _ K=>?_;replace B:=B.step M;refine UZ (j:=0) (a:=[105,110,116,101,114]) K B rfl UG rfl rfl rfl (by simp[U1]) fun _ B=>?_;have M:=B.mem;refine Qa 1 K M fun _ K=>?_;replace B:=B.step M;refine UZ (j:=0) (a:=[109,105,110,117,115]) K B rfl UG rfl rfl rfl (by simp[U1]) fun _ B=>?_;have M:=B.mem;refine Qa 1 K M fun _ K=>?_;replace B:=B.step M;refine UZ (j:=0) (a:=[110,111,116]) K B rfl UG rfl rfl rfl (by simp[U1]) fun _ B=>?_;have M:=B.mem;refine Qa 1 K M fun _ K=>?_;replace B:=B.step M;refine UZ (j:=0) (a:=[97,110,100]) K B rfl UG rfl rfl rfl (by simp[U1]) fun _ B=>?_;have M:=B.mem;refine Qa 1 K M fun _ K=>?_;replace B:=B.step M;refine UZ (j:=0) (a:=[101,120]) K B rfl UG rfl rfl rfl (by simp[U1]) fun _ B=>?_;have M:=B.mem;refine Qa 2 K M ?_;exact⟨c1,rfl,(B.step M).at_ (k:=0) rfl,(B.step M).xq (k:=0) rfl,(B.step M).qt⟩

theorem zf{R:EM}{st:St}(hf:Qh st)(hR:Xx R st.h.get){a:Int}(hr:Xd R (.mk o a b g n l) cs): ∃v st',QP 242 [.agg cs] st v st'∧v=.agg [iZ a,iZ b,iZ g]∧Qt st st':=by
 have hr0:=hr;obtain⟨kc,ls,rfl,hK⟩:=hr.Xg;have hln:=hK.ln;have hbn:=hK.FP;refine Jy Tryz.func242 Tryz.ntmps242 fun T K=>?_;have M:=Mem.start hf;refine Qa 0 K M fun _ K=>?_;refine Uj K M rfl (Qc rfl (Qc rfl (Qc rfl (Qc rfl (Qc rfl (Qc hK.cell QY)))))) QA fun c1 _ _ K M=>?_;refine au 7 K M ?_;intro c2 _ _ K _ M;refine p1 K (YW zm Hc Zn NJ rfl rfl) fun _ K=>?_;refine au 1 K M ?_;intro _ _ K _ M;refine Qa 0 K M ?_;exact⟨rfl,M.qt⟩

theorem Me{R:EM}{st:St}(hf:Qh st)(hR:Xx R st.h.get){a:Int}(hr:Xd R (.mk o a b g n l) cs){m:Int}(hc:J0 (.mk o a b g n l) m=true): ∃v st',QP 198 [.agg cs,iZ m] st v st'∧v=.bool true∧Qt st st':=by
 have hr0:=hr;obtain⟨kc,ls,rfl,hK⟩:=hr.Xg;have hln:=hK.ln;have hbn:=hK.FP;obtain⟨vn,bn,kn,hsh,hv0,hv3,hk,hn1,hn2,hn0,hvar,hex⟩:=BO hc;have B:=Ql.start hf;refine Jy Tryz.func198 Tryz.ntmps198 fun T K=>?_;have M:=B.mem;refine Qa 0 K M fun _ K=>?_;refine Uj K M rfl (Qc rfl (Qc rfl (Qc rfl (Qc rfl (Qc rfl (Qc hK.cell QY)))))) QA fun c2 _ _ K M=>?_;refine Qa 1 K M fun _ K=>?_;refine QU (l:=[(0,0),(1,0),(2,1),(3,0),(4,0),(5,0),(7,0),(8,0),(6,0),(9,0)]) (by kernel_rfl) ?_;have Mq:=M;replace B:=B.step M;obtain⟨v10,st10,ev10,cm,rfl,hmp,nfm,q10⟩:=Tb B.fresh;refine qA rfl K (Qg rfl ev10) fun _ K=>?_;replace B:=B.new (o:=Vn cm Ko Wf) q10 hmp nfm;have M:=B.mem;have Mp:=Mq;have Mq:=M;refine Yq 1 K M fun _ K=>?_;refine JL rfl K rfl (M.load (k:=0) rfl (Qb Hf rfl)) (Mp.load (k:=0) rfl (Qb Hf rfl)) (Ub rfl) rfl QA fun _ K=>?_;refine qA rfl K (VD (a:=o) UG ((B.step M).at_ (k:=0) rfl) rfl rfl) fun _ K=>?_;rw[hsh]at K;refine Yq 2 K M fun _ K=>?_;refine By rfl K M Vk QA fun c5 _ _ K M=>?_;refine Kf (k:=0) rfl K M rfl rfl rfl EU rfl rfl rfl fun _ M=>?_;have Mp:=Mq;have Mq:=M;refine Yq 2 K M fun _ K=>?_;refine Ji ?_;show W _ _ _ _ _ _ _;refine ZG ?_;refine fh (J:=fun T st9=>QG [(1,iZ m),(2,.ptr c2 0 0),(4,.bool false),(5,.ptr c5 0 0),(45,.bool (decide (20<n)))] T∧Ql st WM st9 [(c5,0,[iZ vn,.bool bn,iZ kn]),(c2,0,[.str o,iZ a,iZ b,iZ g,iZ n,kc])] [Vn cm Ko Wf]) ?_ (fun T st9 hJ=>?_)
 ·refine Qa 5 K M fun _ K=>?_;refine pg K rfl rfl (Q7 JD rfl rfl hK.len) fun _ K=>?_;refine Qa 4 K M fun _ K=>?_;refine aW K rfl (fun _ e26 K=>?_) fun _ e26 K=>?_
  · refine Qa 3 K M fun _ K=>?_;refine kp K rfl rfl (Q8 rfl) rfl fun b30 _ e30 K=>?_;cases b30
    · replace e30:(bn)=true:=by simpa using e30
      refine Qa 10 K M fun _ K=>?_;refine Uz K rfl (fun _ e41 K=>?_) fun _ e41 K=>?_
      · refine Qa 4 K M fun _ K=>?_;exact⟨(K.sub rfl),(B.step M).less (.refl _)⟩
      exfalso;omega
    replace e30:(bn)=false:=by simpa using e30
    refine Qa 5 K M fun _ K=>?_;refine aW K rfl (fun _ e36 K=>?_) fun _ e36 K=>?_
    · refine Qa 4 K M fun _ K=>?_;refine Uz K rfl (fun _ e41 K=>?_) fun _ e41 K=>?_
      · refine Qa 4 K M fun _ K=>?_;exact⟨(K.sub rfl),(B.step M).less (.refl _)⟩
      exfalso;omega
    exfalso;first|omega|(have:=hn0 (by simpa using e30);omega)
  exfalso;omega
 obtain⟨K,B⟩:=hJ;have M:=B.mem;refine UA K rfl (fun h45=>?_) fun h45=>?_
 ·exfalso;omega
 refine Qa 1 K M fun _ K=>?_;refine oQ K M (zf M.fresh (fun c m l hr=>(B.step M).ZP hf (hR c m l hr) id) hr0) rfl rfl fun _ _ K M=>?_;refine Qa 1 K M fun _ K=>?_;refine Jc (fun mm1 T st9=> ∃(i:Nat),mm1=3-i∧QG [(1,iZ m),(2,.ptr c2 0 0),(5,.ptr c5 0 0),(47,.agg [iZ a,iZ b,iZ g]),(48,iN i)] T∧Ql st WM st9 [(c5,0,[iZ vn,.bool bn,iZ kn]),(c2,0,[.str o,iZ a,iZ b,iZ g,iZ n,kc])] [Vn cm Ko Wf]∧i≤3) (fun mm1 T st9 hI=>?_) _ _ _ ⟨0,rfl,(K.sub rfl),(B.step M).less (.refl _),Qe⟩;obtain⟨i,rfl,K,B,hi⟩:=hI;have M:=B.mem;refine Qa 1 K M fun _ K=>?_;refine UA K rfl (fun h49=>?_) fun h49=>?_
 ·refine Qa 1 K M fun _ K=>?_;have hx51:=aM a b g (i:=i) Qe;refine p1 K (Ts (j:=i) rfl rfl Qe hx51) fun _ K=>?_;refine Qa 6 K M fun _ K=>?_;refine Uz K rfl (fun _ e57 K=>?_) fun _ e57 K=>?_
  · refine Qa 9 K M fun _ K=>?_;refine Uz K rfl (fun _ e66 K=>?_) fun _ e66 K=>?_
    · refine Qa 17 K M fun _ K=>?_;exact⟨_,Qe,i+1,rfl,(K.sub rfl),(B.step M).less (.refl _),Qe⟩
    refine Qa 2 K M fun _ K=>?_;refine pg K rfl rfl (Gx (b:=[101,120]) rfl rfl) fun _ K=>?_;refine Qa 1 K M fun _ K=>?_;refine aW K rfl (fun _ e71 K=>?_) fun _ e71 K=>?_
    · refine Qa 12 K M fun _ K=>?_;exact⟨_,Qe,i+1,rfl,(K.sub rfl),(B.step M).less (.refl _),Qe⟩
    refine Qa 2 K M fun _ K=>?_;refine xe K rfl rfl (Q8 rfl) rfl (fun _ e74 K=>?_) fun _ e74 K=>?_
    · refine Qa 6 K M fun _ K=>?_;refine Ze K rfl (fun h61=>?_) fun h61=>?_
      · have hb61:=h61;replace h61:=of_decide_eq_true h61;refine Qa 1 K M ?_
        exfalso
        first
         |omega
         |(have h:=(hvar i Qe).1 Qe;omega)
         |(have h:=(hvar i Qe).2 Qe (by assumption);omega)
         |(have h:=hex (by first|assumption|(apply Classical.byContradiction;assumption));omega)
      have hb61:=h61;replace h61:=of_decide_eq_false h61;refine Qa 2 K M fun _ K=>?_;exact⟨_,Qe,i+1,rfl,(K.sub rfl),(B.step M).less (.refl _),Qe⟩
    refine Qa 8 K M ?_
    exfalso
    first
     |omega
     |(have h:=(hvar i Qe).1 Qe;omega)
     |(have h:=(hvar i Qe).2 Qe (by assumption);omega)
     |(have h:=hex (by first|assumption|(apply Classical.byContradiction;assumption));omega)
  refine Qa 4 K M fun _ K=>?_;refine Ze K rfl (fun h52=>?_) fun h52=>?_
  · have hb52:=h52
    replace h52: ¬((Ug a b g i)=0):=by first|exact of_decide_eq_false h52|exact yF h52|simpa using h52
    refine Qa 1 K M ?_
    exfalso
    first
     |omega
     |(have h:=(hvar i Qe).1 Qe;omega)
     |(have h:=(hvar i Qe).2 Qe (by assumption);omega)
     |(have h:=hex (by first|assumption|(apply Classical.byContradiction;assumption));omega)
  have hb52:=h52
  replace h52:((Ug a b g i)=0):=by first|exact of_decide_eq_true h52|exact yT h52|simpa using h52
  refine Qa 4 K M fun _ K=>?_;refine Uz K rfl (fun _ e66 K=>?_) fun _ e66 K=>?_
  · refine Qa 17 K M fun _ K=>?_;exact⟨_,Qe,i+1,rfl,(K.sub rfl),(B.step M).less (.refl _),Qe⟩
  refine Qa 2 K M fun _ K=>?_;refine pg K rfl rfl (Gx (b:=[101,120]) rfl rfl) fun _ K=>?_;refine Qa 1 K M fun _ K=>?_;refine aW K rfl (fun _ e71 K=>?_) fun _ e71 K=>?_
  · refine Qa 12 K M fun _ K=>?_;exact⟨_,Qe,i+1,rfl,(K.sub rfl),(B.step M).less (.refl _),Qe⟩
  refine Qa 2 K M fun _ K=>?_;refine xe K rfl rfl (Q8 rfl) rfl (fun _ e74 K=>?_) fun _ e74 K=>?_
  · refine Qa 6 K M fun _ K=>?_;refine Ze K rfl (fun h61=>?_) fun h61=>?_
    · have hb61:=h61;replace h61:=of_decide_eq_true h61;refine Qa 1 K M ?_
      exfalso
      first
       |omega
       |(have h:=(hvar i Qe).1 Qe;omega)
       |(have h:=(hvar i Qe).2 Qe (by assumption);omega)
       |(have h:=hex (by first|assumption|(apply Classical.byContradiction;assumption));omega)
    have hb61:=h61;replace h61:=of_decide_eq_false h61;refine Qa 2 K M fun _ K=>?_;exact⟨_,Qe,i+1,rfl,(K.sub rfl),(B.step M).less (.refl _),Qe⟩
  refine Qa 8 K M ?_
  exfalso
  first
   |omega
   |(have h:=(hvar i Qe).1 Qe;omega)
   |(have h:=(hvar i Qe).2 Qe (by assumption);omega)
   |(have h:=hex (by first|assumption|(apply Classical.byContradiction;assumption));omega)
 refine QT ?_;show W _ _ _ _ _ _ _;refine Qa 2 K M fun _ K=>?_;refine p1 K (Gx (b:=[101,120]) rfl rfl) fun _ K=>?_;refine aW K rfl (fun _ e84 K=>?_) fun _ e84 K=>?_
 ·refine Qa 4 K M fun _ K=>?_;refine xe K rfl rfl (Q8 rfl) rfl (fun _ e89 K=>?_) fun _ e89 K=>?_
  · refine Qa 5 K M ?_
    exfalso
    first
     |omega
     |(have h:=(hvar i Qe).1 Qe;omega)
     |(have h:=(hvar i Qe).2 Qe (by assumption);omega)
     |(have h:=hex (by first|assumption|(apply Classical.byContradiction;assumption));omega)
  refine Qa 5 K M ?_;refine⟨congrArg AV.bool (decide_eq_true ?_),(B.step M).qt⟩;exact(hex (by first|assumption|(apply Classical.byContradiction;assumption))).2
 refine Qa 10 K M ?_;exact⟨rfl,(B.step M).qt⟩

theorem TT{R:EM}{st:St}(hf:Qh st)(hR:Xx R st.h.get){kc:AV}{ls:List (List AV)}(hK:Yp R l kc ls){fo:FuncId}{fa fc:List AV}(hC: ∀(k:Cr) (cs:List AV),k∈l→Xd R k cs→ ∀(st1:St),Qt st st1→ ∃v st',QP fo (fa++([.agg cs]++fc)) st1 v st'∧v=.bool false∧Qt st1 st'): ∃v st',QP 243 [kc,(.fn fo fa fc)] st v st'∧v=iZ (-1)∧Qt st st':=by
 have hbn:=hK.FP;refine Jy Tryz.func243 Tryz.ntmps243 fun T K=>?_;have M:=Mem.start hf;refine Qa 2 K M fun _ K=>?_;refine p1 K (Q7 JD rfl rfl hK.len) fun _ K=>?_;refine Qa 1 K M fun _ K=>?_;refine Jc (fun mm1 T st9=> ∃(i:Nat),mm1=l.length-i∧QG [(0,kc),(1,(.fn fo fa fc)),(7,iZ (l.length:Nat)),(8,iN i)] T∧Mem st.h.get st.n [] st9 []∧i≤l.length) (fun mm1 T st9 hI=>?_) _ _ _ ⟨0,rfl,(K.sub rfl),M.less (.refl _),(Nat.zero_le _)⟩;obtain⟨i,rfl,K,M,hi⟩:=hI;refine Qa 1 K M fun _ K=>?_;refine UA K rfl (fun h9=>?_) fun h9=>?_
 ·refine Qa 5 K M fun _ K=>?_;obtain⟨⟨o14,a14,b14,g14,n14,l14⟩,hi14⟩: ∃k,l[i]? =some k:=⟨_,List.getElem?_eq_getElem Qe⟩;have hm14:=uO hi14;obtain⟨_,hc14,hn14⟩:=hK.get hi14;have hp14:=hn14;obtain⟨kc14,ls14,rfl,hK14⟩:=hp14.Xg;refine fX (hK.r (M.Xx hR)) hc14 K US J6 rfl rfl fun _ _ _ _ K=>?_;obtain⟨v16,st16,ev16,rfl,q16⟩:=hC _ _ hm14 hn14 _ M.qt;refine p1 K (Zj rfl rfl ev16) fun _ K=>?_;replace M:=M.quiet q16;refine Qa 3 K M fun _ K=>?_;exact⟨_,Qe,i+1,rfl,(K.sub rfl),M.less (.refl _),Qe⟩
 refine QT ?_;show W _ _ _ _ _ _ _;refine Qa 1 K M ?_;exact⟨rfl,M.qt⟩

theorem FM{R:EM}{st:St}(hf:Qh st)(hR:Xx R st.h.get){kc:AV}{ls:List (List AV)}(hK:Yp R l kc ls){fo:FuncId}{fa fc:List AV}(hC: ∀(k:Cr) (cs:List AV),k∈l→Xd R k cs→ ∀(st1:St),Qt st st1→ ∃v st',QP fo (fa++([.agg cs]++fc)) st1 v st'∧v=.bool false∧Qt st1 st'): ∃v st',QP 199 [kc,(.fn fo fa fc)] st v st'∧v=.bool false∧Qt st st':=by
 refine Jy Tryz.func199 Tryz.ntmps199 fun T K=>?_;have M:=Mem.start hf;refine Qa 3 K M fun _ K=>?_;refine oQ K M (TT M.fresh (M.Xx hR) hK (fun k cs hm hk st1 q=>hC k cs hm hk st1 (M.qt.trans q))) rfl rfl fun _ _ K M=>?_;refine Qa 2 K M ?_;exact⟨rfl,M.qt⟩

theorem RX{R:EM}{st:St}(hf:Qh st)(hR:Xx R st.h.get){k:Cr}(hr:Xd R k cs){c3:Nat}{m:Int}(h3:Qu st.h.get c3 0 [iZ m])(ih: ∀(st1:St),Qt st st1→Xx R st1.h.get→ ∃v st',QP 153 [.agg cs,iZ m] st1 v st'∧v=.bool true∧Qt st1 st'): ∃v st',QP 200 [.agg cs,.ptr c3 0 0] st v st'∧v=.bool false∧Qt st st':=by
 have hp:=hr;obtain⟨o,a,b,g,n,l,kc,ls,rfl,rfl,hK⟩:=hp.aV;refine Jy Tryz.func200 Tryz.ntmps200 fun T K=>?_;have M:=Mem.start hf;refine Qa 0 K M fun _ K=>?_;refine Uj K M rfl (Qc rfl (Qc rfl (Qc rfl (Qc rfl (Qc rfl (Qc hK.cell QY)))))) QA fun c2 _ _ K M=>?_;refine Qa 2 K M fun _ K=>?_;refine p1 K (Qi rfl (Qq (M.QX Q0 h3.QH) (Qb Qr rfl))) fun _ K=>?_;refine oQ K M (ih _ M.qt (M.Xx hR)) rfl rfl fun _ _ K M=>?_;refine Qa 2 K M ?_;exact⟨rfl,M.qt⟩

theorem xS(x:Cr): ∀(m:Int) (R:EM) (st:St) (cs:List AV),Qh st→Xx R st.h.get→Xd R x cs→J0 x m=true→ -100≤m→m≤100→ ∃v st',QP 153 [.agg cs,iZ m] st v st'∧v=.bool true∧Qt st st':=by
 refine GQ (M:=fun x=> ∀(m:Int) (R:EM) (st:St) (cs:List AV),Qh st→Xx R st.h.get→Xd R x cs→J0 x m=true→ -100≤m→m≤100→ ∃v st',QP 153 [.agg cs,iZ m] st v st'∧v=.bool true∧Qt st st') (fun o a b g n l ih=>?_) x;intro m R st cs hf hR hr hc hm1 hm2;have hr0:=hr;obtain⟨kc,ls,rfl,hK⟩:=hr.Xg;have hln:=hK.ln;have hbn:=hK.FP;refine Jy Tryz.func153 Tryz.ntmps153 fun T K=>?_;have M:=Mem.start hf;refine Qa 0 K M fun _ K=>?_;refine Uj K M rfl (Qc rfl (Qc rfl (Qc rfl (Qc rfl (Qc rfl (Qc hK.cell QY)))))) QA fun c2 _ _ K M=>?_;refine au 4 K M ?_;intro c3 _ _ K _ M;refine oQ K M (Me M.fresh (M.Xx hR) hr0 hc) rfl rfl fun _ _ K M=>?_;refine Qa 4 K M fun _ K=>?_;refine p1 K (JF (b:=[101,120]) rfl rfl) fun _ K=>?_;refine Qa 0 K M fun _ K=>?_;refine UA K rfl (fun h11=>?_) fun h11=>?_
 ·have hcx:=hc;rw[J0,if_pos h11]at hcx;simp only[Bool.and_eq_true,decide_eq_true_eq]at hcx;obtain⟨_,_,_,_,hm6,_,_,hcl⟩:=hcx;refine au 5 K M ?_;intro _ _ K _ M;refine p1 K (Yr rfl rfl) fun _ K=>?_;have r3:=M.Ue (k:=0) rfl;obtain⟨v17,st17,ev17,rfl,q17⟩:=FM (R:=R) M.fresh (M.Xx hR) hK (fo:=200) (fa:=[]) (fc:=[.ptr c3 0 0]) (fun k cs hm hk st1 q=>RX (m:=(m+1)) q.fresh (fun c m l hr=>by obtain⟨ro,e,vs,ms,h2,h3⟩:=M.Xx hR c m l hr;exact⟨ro,e,vs,ms,by rw[q.Jx c (Nat.lt_of_not_le fun hle=>by rw[M.fresh c hle]at h2;cases h2)];exact h2,h3⟩) hk (r3.frame (q.Jx c3 (r3.lt M.fresh))) (fun st2 q2 hR2=>ih k hm _ R _ _ q2.fresh hR2 hk (Oz hcl hm) Qe Qe));refine p1 K (Qg rfl ev17) fun _ K=>?_;replace M:=M.quiet q17;refine Qa 2 K M ?_;exact⟨rfl,M.qt⟩
 refine Qa 0 K M fun _ K=>?_;have hcx:=hc;rw[J0,if_neg h11]at hcx;simp only[Bool.and_eq_true,decide_eq_true_eq]at hcx;obtain⟨_,_,_,_,_,_,hcl⟩:=hcx;refine Qa 2 K M fun _ K=>?_;refine p1 K (Yr rfl rfl) fun _ K=>?_;have r3:=M.Ue (k:=0) rfl;obtain⟨v17,st17,ev17,rfl,q17⟩:=FM (R:=R) M.fresh (M.Xx hR) hK (fo:=200) (fa:=[]) (fc:=[.ptr c3 0 0]) (fun k cs hm hk st1 q=>RX (m:=m) q.fresh (fun c m l hr=>by obtain⟨ro,e,vs,ms,h2,h3⟩:=M.Xx hR c m l hr;exact⟨ro,e,vs,ms,by rw[q.Jx c (Nat.lt_of_not_le fun hle=>by rw[M.fresh c hle]at h2;cases h2)];exact h2,h3⟩) hk (r3.frame (q.Jx c3 (r3.lt M.fresh))) (fun st2 q2 hR2=>ih k hm _ R _ _ q2.fresh hR2 hk (Oz hcl hm) Qe Qe));refine p1 K (Qg rfl ev17) fun _ K=>?_;replace M:=M.quiet q17;refine Qa 2 K M ?_;exact⟨rfl,M.qt⟩

theorem Ss{R:EM}{st:St}(hf:Qh st)(hR:Xx R st.h.get){a:Int}(hr:Xd R (.mk o a b g n l) cs){m:Int}(h0:0≤m)(h6:m≤6)(hsz:Wc (.mk o a b g n l)≤2000)(hc:J0 (.mk o a b g n l) m=true): ∃v st',QP 104 [.agg cs,iZ m] st v st'∧v=.bool true∧Qt st st':=by
 have hr0:=hr;obtain⟨kc,ls,rfl,hK⟩:=hr.Xg;have hln:=hK.ln;have hbn:=hK.FP;refine Jy Tryz.func104 Tryz.ntmps104 fun T K=>?_;have M:=Mem.start hf;refine Qa 0 K M fun _ K=>?_;refine Uj K M rfl (Qc rfl (Qc rfl (Qc rfl (Qc rfl (Qc rfl (Qc hK.cell QY)))))) QA fun c2 _ _ K M=>?_;refine Qa 3 K M fun _ K=>?_;refine Uz K rfl (fun _ e7 K=>?_) fun _ e7 K=>?_
 ·exfalso;omega
 refine Qa 3 K M fun _ K=>?_;refine Uz K rfl (fun _ e11 K=>?_) fun _ e11 K=>?_
 ·exfalso;omega
 refine Qa 1 K M fun _ K=>?_;obtain⟨v13,st13,ev13,rfl,q13⟩:=Mr M.fresh (M.Xx hR) hr0;refine pg K rfl rfl (Qg rfl ev13) fun _ K=>?_;replace M:=M.quiet q13;refine Qa 2 K M fun _ K=>?_;refine Uz K rfl (fun _ e16 K=>?_) fun _ e16 K=>?_
 ·exfalso;omega
 refine Qa 2 K M fun _ K=>?_;obtain⟨v19,st19,ev19,rfl,q19⟩:=xS (.mk o a b g n l) m R _ _ M.fresh (M.Xx hR) hr0 hc Qe Qe;refine pg K rfl rfl (Qg rfl ev19) fun _ K=>?_;replace M:=M.quiet q19;refine Qa 2 K M ?_;exact⟨rfl,M.qt⟩
end Go.Proofs.YtildagdnomiahaaGreatDoor
