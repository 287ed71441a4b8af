/-
  Core formulas that may be: the program says so.
-/
import Derived.Test.YtildagdnomiahaaGreatDoorQvCor
namespace Go.Proofs.YtildagdnomiahaaGreatDoor
open Go Go.RowKit
set_option maxHeartbeats 8000000
set_option linter.unusedVariables false
set_option linter.unusedSimpArgs false
set_option linter.unnecessarySimpa false
set_option linter.unusedSectionVars false
set_option maxRecDepth 100000
variable {b g n:Int} {cs:List AV} {l:List Cr} {o:List Nat}

abbrev Li(x:List Nat):AV:=.str x
theorem zR:Tryz.prog.underlying 280=some (.map 9 278):=by kernel_rfl
theorem zV:Tryz.prog.underlying 282=some (.array 3 3):=by kernel_rfl
theorem vS:VG Tryz.prog 282=some (3,3):=by kernel_rfl
abbrev sh(v:Int)(b:Bool)(k:Int):AV:=.agg [.int .i64 v,.bool b,.int .i64 k]
theorem UR:Vo Tryz.prog 280 Li (sh 0 false 0):=⟨9,278,.string,zR,HP,by kernel_rfl,fun a=>rfl,fun a i=>rfl,fun a b v n es i=>by
 have e:UH Tryz.prog 9 .string (Li a) ((Li b,v,n)::es) i=Qj (Gh a b) (some (some (i,v))) (UH Tryz.prog 9 .string (Li a) es (i+1)):=by
  refine(Ve .string (Li a) (Li b,v,n) es i).trans ?_;show ob (some (Gh a b)) _=_;rw[Qg];rfl
 rw[e,Z5]
 exact⟨fun h=>by rw[decide_eq_true h];rfl,fun h=>by rw[decide_eq_false h];rfl⟩⟩
section
variable {α:Type} {key:α→AV} {P:Program} {G:Env} {N:Nat} {st0 st:St} {X0:Fp} {M:QP} {Os:List Ob} {T:Tr AV} {ops rest:List Oper} {K:List (Nat×AV)} {R:Tr AV→St→Prop} {t ty:TypeId} {pos:String} {af:Array Edge} {z:AV} {vl:List AV} {cm j:Nat} {L:List (α×AV)} {a:α} {m k x:Operand}
theorem xK(Tk:Vo P t key z){n:Nat}{es:List (AV×AV×Nat)}(hc:st.h.get cm=some (.map es n))(he:NJ key es L)(hm:QG G K m=some (.mp cm))(hk:QG G K k=some (key a))(hx:QG G K x=some (.agg vl))(hn:U9 L a=none):
  Us P G K (.insert t m k x) st (.tup []) (E6 st cm n es (key a) (.agg vl)):=.of fun T' hT c d ty pos af g=>by
 obtain⟨kt,et,d',u1,u2,u3,u4,u5,u6⟩:=Tk.rule;show(ob (QN G T' m) fun m=>ob (QN G T' k) fun k=>ob (QN G T' x) fun x=>YV P t m k x st)=_;rw[hT.QN hm,hT.QN hk,hT.QN hx,Qg,Qg,Qg];unfold YV E6;obtain⟨f1,f2⟩:=Vo.find (P:=P) (t:=t) (z:=z) (et:=et) u5 u6 a L es 0 he;simp only[u1,u2,u4,Q7,hc,Qg,f1 hn,Bool.or_true,J1,JD,QE,Ui]
theorem Yl(hK:QH K T)(B:Ql st0 X0 st M Os)(hj:Os[j]? =some (VB cm key L))(Tk:Vo P t key z)(hm:QG G K m=some (.mp cm))(hk:QG G K k=some (key a))(hx:QG G K x=some (.agg vl))(hn:U9 L a=none)
  (hr: ∀st',Ql st0 X0 st' M (Os.set j (VB cm key (L++[(a,.agg vl)])))→WR P G N ops rest R T st'):WR P G N ops (⟨none,.insert t m k x,ty,pos,af,none⟩::rest) R T st:=by
 obtain⟨es,n,hc,he⟩:=B.at_ hj;exact Sg hK (xK Tk hc he hm hk hx hn) (hr _ (B.Bo hj hc he a (.agg vl)))
end
def W9:List (List Nat×AV):=[([116,114,117,101],sh 0 false 0),([115,117,98],sh 2 false 0),([115,105,110,103],sh 1 false 0),([102,108,97,103],sh 1 false 0),([110,111,110,101],sh 1 false 0),([108,101,115,115],sh 2 false 0),([112,108,117,115],sh 2 true 0),([110,117,109],sh 1 true 0),([117,110,105,111,110],sh 3 false 0),([105,110,116,101,114],sh 3 false 0),([109,105,110,117,115],sh 3 false 0),([110,111,116],sh 0 false 1),([97,110,100],sh 0 false 2),([101,120],sh 1 false 1)]
def Up(a b g:Int)(i:Nat):Int:=if i=0 then a else if i=1 then b else g
theorem fB(a b g:Int){i:Nat}(h:i<3):([AV.int .i64 a,.int .i64 b,.int .i64 g]:List AV)[i]? =some (.int .i64 (Up a b g i)):=by
 match i,h with
 |0,_=>rfl
 |1,_=>rfl
 |2,_=>rfl
theorem Mb{G:Env}{K:List (Nat×AV)}{st:St}{x i:Operand}{l:List AV}{j:Nat}{v:AV}(hx:QG G K x=some (.agg l))(hi:QG G K i=some (.int .i64 (j:Nat)))(hj:j<3)(hv:l[j]? =some v):Us Tryz.prog G K (.index 282 x i) st v st:=.of fun T hT cc d ty pos af g=>by
 show ret (ob (QN G T x) fun x=>ob (QN G T i) fun i=>Fj Tryz.prog 282 x i) st=_;rw[hT.QN hx,hT.QN hi,Qg,Qg];unfold Fj;show ret (ob (VG Tryz.prog 282) fun q=>ob (Cu ((j:Nat):Int)) fun i=>Q6 (Nat.ble (i+1) q.1) (YJ Tryz.prog q.2 l (i *Tryz.prog.cellsOf q.2))) st=_;rw[vS,Qg,show Cu ((j:Nat):Int)=some j from rfl,Qg,Z6,Nat.mul_one,show Nat.ble (j+1) 3=true from Nat.ble_eq_true_of_le hj,Q7];unfold YJ;rw[Qs];show ret (nth l j) st=_;rw[JV,hv];rfl
theorem CH{a m:Int}(h:Ja (.mk o a b g n l) m=true): ∃vn bn kn,U9 W9 o=some (sh vn bn kn)∧0≤vn∧vn≤3∧((l.length:Nat):Int)=kn∧0≤n∧n<21∧(bn=false→n=0)∧(∀i:Nat,i<3→(vn≤i→Up a b g i=0)∧((i:Int)<vn→o≠[101,120]→0≤Up a b g i∧Up a b g i<m))∧(o=[101,120]→a=m∧m<6):=by
 have hi: ∀{P:Nat→Prop},P 0→P 1→P 2→ ∀i,i<3→P i:=fun h0 h1 h2 i hi=>by
  match i,hi with
  |0,_=>exact h0
  |1,_=>exact h1
  |2,_=>exact h2
 rw[Ja]at h;simp only[Bool.and_eq_true,decide_eq_true_eq]at h;obtain⟨h1,h2,h3,h4⟩:=h
 by_cases e0:o=[116,114,117,101]
 ·subst e0;have h2:((l.length:Nat):Int)=0:=h2.trans Q9;simp[ZQ,Yj]at h3 h4;exact⟨0,false,0,by simp[U9,W9],by omega,by omega,h2,by omega,by omega,(fun hb=>by first|omega|cases hb),hi ⟨(fun h=>by simp only[Up];first|omega|simp_all),(fun h e=>by simp only[Up];first|omega|(simp at e;done)|simp_all)⟩ ⟨(fun h=>by simp only[Up];first|omega|simp_all),(fun h e=>by simp only[Up];first|omega|(simp at e;done)|simp_all)⟩ ⟨(fun h=>by simp only[Up];first|omega|simp_all),(fun h e=>by simp only[Up];first|omega|(simp at e;done)|simp_all)⟩,fun e=>by first|(simp at e;done)|omega|simp_all⟩
 by_cases e1:o=[115,117,98]
 ·subst e1;have h2:((l.length:Nat):Int)=0:=h2.trans Q9;simp[ZQ,Yj]at h3 h4;exact⟨2,false,0,by simp[U9,W9],by omega,by omega,h2,by omega,by omega,(fun hb=>by first|omega|cases hb),hi ⟨(fun h=>by simp only[Up];first|omega|simp_all),(fun h e=>by simp only[Up];first|omega|(simp at e;done)|simp_all)⟩ ⟨(fun h=>by simp only[Up];first|omega|simp_all),(fun h e=>by simp only[Up];first|omega|(simp at e;done)|simp_all)⟩ ⟨(fun h=>by simp only[Up];first|omega|simp_all),(fun h e=>by simp only[Up];first|omega|(simp at e;done)|simp_all)⟩,fun e=>by first|(simp at e;done)|omega|simp_all⟩
 by_cases e2:o=[115,105,110,103]
 ·subst e2;have h2:((l.length:Nat):Int)=0:=h2.trans Q9;simp[ZQ,Yj]at h3 h4;exact⟨1,false,0,by simp[U9,W9],by omega,by omega,h2,by omega,by omega,(fun hb=>by first|omega|cases hb),hi ⟨(fun h=>by simp only[Up];first|omega|simp_all),(fun h e=>by simp only[Up];first|omega|(simp at e;done)|simp_all)⟩ ⟨(fun h=>by simp only[Up];first|omega|simp_all),(fun h e=>by simp only[Up];first|omega|(simp at e;done)|simp_all)⟩ ⟨(fun h=>by simp only[Up];first|omega|simp_all),(fun h e=>by simp only[Up];first|omega|(simp at e;done)|simp_all)⟩,fun e=>by first|(simp at e;done)|omega|simp_all⟩
 by_cases e3:o=[102,108,97,103]
 ·subst e3;have h2:((l.length:Nat):Int)=0:=h2.trans Q9;simp[ZQ,Yj]at h3 h4;exact⟨1,false,0,by simp[U9,W9],by omega,by omega,h2,by omega,by omega,(fun hb=>by first|omega|cases hb),hi ⟨(fun h=>by simp only[Up];first|omega|simp_all),(fun h e=>by simp only[Up];first|omega|(simp at e;done)|simp_all)⟩ ⟨(fun h=>by simp only[Up];first|omega|simp_all),(fun h e=>by simp only[Up];first|omega|(simp at e;done)|simp_all)⟩ ⟨(fun h=>by simp only[Up];first|omega|simp_all),(fun h e=>by simp only[Up];first|omega|(simp at e;done)|simp_all)⟩,fun e=>by first|(simp at e;done)|omega|simp_all⟩
 by_cases e4:o=[110,111,110,101]
 ·subst e4;have h2:((l.length:Nat):Int)=0:=h2.trans Q9;simp[ZQ,Yj]at h3 h4;exact⟨1,false,0,by simp[U9,W9],by omega,by omega,h2,by omega,by omega,(fun hb=>by first|omega|cases hb),hi ⟨(fun h=>by simp only[Up];first|omega|simp_all),(fun h e=>by simp only[Up];first|omega|(simp at e;done)|simp_all)⟩ ⟨(fun h=>by simp only[Up];first|omega|simp_all),(fun h e=>by simp only[Up];first|omega|(simp at e;done)|simp_all)⟩ ⟨(fun h=>by simp only[Up];first|omega|simp_all),(fun h e=>by simp only[Up];first|omega|(simp at e;done)|simp_all)⟩,fun e=>by first|(simp at e;done)|omega|simp_all⟩
 by_cases e5:o=[108,101,115,115]
 ·subst e5;have h2:((l.length:Nat):Int)=0:=h2.trans Q9;simp[ZQ,Yj]at h3 h4;exact⟨2,false,0,by simp[U9,W9],by omega,by omega,h2,by omega,by omega,(fun hb=>by first|omega|cases hb),hi ⟨(fun h=>by simp only[Up];first|omega|simp_all),(fun h e=>by simp only[Up];first|omega|(simp at e;done)|simp_all)⟩ ⟨(fun h=>by simp only[Up];first|omega|simp_all),(fun h e=>by simp only[Up];first|omega|(simp at e;done)|simp_all)⟩ ⟨(fun h=>by simp only[Up];first|omega|simp_all),(fun h e=>by simp only[Up];first|omega|(simp at e;done)|simp_all)⟩,fun e=>by first|(simp at e;done)|omega|simp_all⟩
 by_cases e6:o=[112,108,117,115]
 ·subst e6;have h2:((l.length:Nat):Int)=0:=h2.trans Q9;simp[ZQ,Yj]at h3 h4;exact⟨2,true,0,by simp[U9,W9],by omega,by omega,h2,by omega,by omega,(fun hb=>by first|omega|cases hb),hi ⟨(fun h=>by simp only[Up];first|omega|simp_all),(fun h e=>by simp only[Up];first|omega|(simp at e;done)|simp_all)⟩ ⟨(fun h=>by simp only[Up];first|omega|simp_all),(fun h e=>by simp only[Up];first|omega|(simp at e;done)|simp_all)⟩ ⟨(fun h=>by simp only[Up];first|omega|simp_all),(fun h e=>by simp only[Up];first|omega|(simp at e;done)|simp_all)⟩,fun e=>by first|(simp at e;done)|omega|simp_all⟩
 by_cases e7:o=[110,117,109]
 ·subst e7;have h2:((l.length:Nat):Int)=0:=h2.trans Q9;simp[ZQ,Yj]at h3 h4;exact⟨1,true,0,by simp[U9,W9],by omega,by omega,h2,by omega,by omega,(fun hb=>by first|omega|cases hb),hi ⟨(fun h=>by simp only[Up];first|omega|simp_all),(fun h e=>by simp only[Up];first|omega|(simp at e;done)|simp_all)⟩ ⟨(fun h=>by simp only[Up];first|omega|simp_all),(fun h e=>by simp only[Up];first|omega|(simp at e;done)|simp_all)⟩ ⟨(fun h=>by simp only[Up];first|omega|simp_all),(fun h e=>by simp only[Up];first|omega|(simp at e;done)|simp_all)⟩,fun e=>by first|(simp at e;done)|omega|simp_all⟩
 by_cases e8:o=[117,110,105,111,110]
 ·subst e8;have h2:((l.length:Nat):Int)=0:=h2.trans Q9;simp[ZQ,Yj]at h3 h4;exact⟨3,false,0,by simp[U9,W9],by omega,by omega,h2,by omega,by omega,(fun hb=>by first|omega|cases hb),hi ⟨(fun h=>by simp only[Up];first|omega|simp_all),(fun h e=>by simp only[Up];first|omega|(simp at e;done)|simp_all)⟩ ⟨(fun h=>by simp only[Up];first|omega|simp_all),(fun h e=>by simp only[Up];first|omega|(simp at e;done)|simp_all)⟩ ⟨(fun h=>by simp only[Up];first|omega|simp_all),(fun h e=>by simp only[Up];first|omega|(simp at e;done)|simp_all)⟩,fun e=>by first|(simp at e;done)|omega|simp_all⟩
 by_cases e9:o=[105,110,116,101,114]
 ·subst e9;have h2:((l.length:Nat):Int)=0:=h2.trans Q9;simp[ZQ,Yj]at h3 h4;exact⟨3,false,0,by simp[U9,W9],by omega,by omega,h2,by omega,by omega,(fun hb=>by first|omega|cases hb),hi ⟨(fun h=>by simp only[Up];first|omega|simp_all),(fun h e=>by simp only[Up];first|omega|(simp at e;done)|simp_all)⟩ ⟨(fun h=>by simp only[Up];first|omega|simp_all),(fun h e=>by simp only[Up];first|omega|(simp at e;done)|simp_all)⟩ ⟨(fun h=>by simp only[Up];first|omega|simp_all),(fun h e=>by simp only[Up];first|omega|(simp at e;done)|simp_all)⟩,fun e=>by first|(simp at e;done)|omega|simp_all⟩
 by_cases e10:o=[109,105,110,117,115]
 ·subst e10;have h2:((l.length:Nat):Int)=0:=h2.trans Q9;simp[ZQ,Yj]at h3 h4;exact⟨3,false,0,by simp[U9,W9],by omega,by omega,h2,by omega,by omega,(fun hb=>by first|omega|cases hb),hi ⟨(fun h=>by simp only[Up];first|omega|simp_all),(fun h e=>by simp only[Up];first|omega|(simp at e;done)|simp_all)⟩ ⟨(fun h=>by simp only[Up];first|omega|simp_all),(fun h e=>by simp only[Up];first|omega|(simp at e;done)|simp_all)⟩ ⟨(fun h=>by simp only[Up];first|omega|simp_all),(fun h e=>by simp only[Up];first|omega|(simp at e;done)|simp_all)⟩,fun e=>by first|(simp at e;done)|omega|simp_all⟩
 by_cases e11:o=[110,111,116]
 ·subst e11;have h2:((l.length:Nat):Int)=1:=h2.trans Q9;simp[ZQ,Yj]at h3 h4;exact⟨0,false,1,by simp[U9,W9],by omega,by omega,h2,by omega,by omega,(fun hb=>by first|omega|cases hb),hi ⟨(fun h=>by simp only[Up];first|omega|simp_all),(fun h e=>by simp only[Up];first|omega|(simp at e;done)|simp_all)⟩ ⟨(fun h=>by simp only[Up];first|omega|simp_all),(fun h e=>by simp only[Up];first|omega|(simp at e;done)|simp_all)⟩ ⟨(fun h=>by simp only[Up];first|omega|simp_all),(fun h e=>by simp only[Up];first|omega|(simp at e;done)|simp_all)⟩,fun e=>by first|(simp at e;done)|omega|simp_all⟩
 by_cases e12:o=[97,110,100]
 ·subst e12;have h2:((l.length:Nat):Int)=2:=h2.trans Q9;simp[ZQ,Yj]at h3 h4;exact⟨0,false,2,by simp[U9,W9],by omega,by omega,h2,by omega,by omega,(fun hb=>by first|omega|cases hb),hi ⟨(fun h=>by simp only[Up];first|omega|simp_all),(fun h e=>by simp only[Up];first|omega|(simp at e;done)|simp_all)⟩ ⟨(fun h=>by simp only[Up];first|omega|simp_all),(fun h e=>by simp only[Up];first|omega|(simp at e;done)|simp_all)⟩ ⟨(fun h=>by simp only[Up];first|omega|simp_all),(fun h e=>by simp only[Up];first|omega|(simp at e;done)|simp_all)⟩,fun e=>by first|(simp at e;done)|omega|simp_all⟩
 by_cases e13:o=[101,120]
 ·subst e13;have h2:((l.length:Nat):Int)=1:=h2.trans Q9;simp[ZQ,Yj]at h3 h4;exact⟨1,false,1,by simp[U9,W9],by omega,by omega,h2,by omega,by omega,(fun hb=>by first|omega|cases hb),hi ⟨(fun h=>by simp only[Up];first|omega|simp_all),(fun h e=>by simp only[Up];first|omega|(simp at e;done)|simp_all)⟩ ⟨(fun h=>by simp only[Up];first|omega|simp_all),(fun h e=>by simp only[Up];first|omega|(simp at e;done)|simp_all)⟩ ⟨(fun h=>by simp only[Up];first|omega|simp_all),(fun h e=>by simp only[Up];first|omega|(simp at e;done)|simp_all)⟩,fun e=>by first|(simp at e;done)|omega|simp_all⟩
 simp[ZQ,Ne.symm, *]at h1

theorem TO{st:St}(hf:Qh st): ∃v st',QV 241 [] st v st'∧ ∃cm,v=.mp cm∧(VB cm Li W9).H st'.h.get∧Vn st st' (fun c=>c=cm)∧Qt st st':=by
 have B:=Ql.start hf;refine Jv Tryz.func241 Tryz.ntmps241 fun T K=>?_;have M:=B.mem;refine Qb 1 K M fun _ K=>?_;replace B:=B.step M;refine VN Li K B rfl fun c1 _ _ K B=>?_;have M:=B.mem;refine Qb 1 K M fun _ K=>?_;replace B:=B.step M;refine Yl (j:=0) (a:=[116,114,117,101]) K B rfl UR rfl rfl rfl (by simp[U9]) fun _ B=>?_;have M:=B.mem;refine Qb 1 K M fun _ K=>?_;replace B:=B.step M;refine Yl (j:=0) (a:=[115,117,98]) K B rfl UR rfl rfl rfl (by simp[U9]) fun _ B=>?_;have M:=B.mem;refine Qb 1 K M fun _ K=>?_;replace B:=B.step M;refine Yl (j:=0) (a:=[115,105,110,103]) K B rfl UR rfl rfl rfl (by simp[U9]) fun _ B=>?_;have M:=B.mem;refine Qb 1 K M fun _ K=>?_;replace B:=B.step M;refine Yl (j:=0) (a:=[102,108,97,103]) K B rfl UR rfl rfl rfl (by simp[U9]) fun _ B=>?_;have M:=B.mem;refine Qb 1 K M fun _ K=>?_;replace B:=B.step M;refine Yl (j:=0) (a:=[110,111,110,101]) K B rfl UR rfl rfl rfl (by simp[U9]) fun _ B=>?_;have M:=B.mem;refine Qb 1 K M fun _ K=>?_;replace B:=B.step M;refine Yl (j:=0) (a:=[108,101,115,115]) K B rfl UR rfl rfl rfl (by simp[U9]) fun _ B=>?_;have M:=B.mem;refine Qb 1 K M fun _ K=>?_;replace B:=B.step M;refine Yl (j:=0) (a:=[112,108,117,115]) K B rfl UR rfl rfl rfl (by simp[U9]) fun _ B=>?_;have M:=B.mem;refine Qb 1 K M fun _ K=>?_;replace B:=B.step M;refine Yl (j:=0) (a:=[110,117,109]) K B rfl UR rfl rfl rfl (by simp[U9]) fun _ B=>?_;have M:=B.mem;refine Qb 1 K M fun _ K=>?_;replace B:=B.step M;refine Yl (j:=0) (a:=[117,110,105,111,110]) K B rfl UR rfl rfl rfl (by simp[U9]) fun _ B=>?_;have M:=B.mem;refine Qb 1 K M fun _ K=>?_;replace B:=B.step M;refine Yl (j:=0) (a:=[105,110,116,101,114]) K B rfl UR rfl rfl rfl (by simp[U9]) fun _ B=>?_;have M:=B.mem;refine Qb 1 K M fun _ K=>?_;replace B:=B.step M;refine Yl (j:=0) (a:=[109,105,110,117,115]) K B rfl UR rfl rfl rfl (by simp[U9]) fun _ B=>?_;have M:=B.mem;refine Qb 1 K M fun _ K=>?_;replace B:=B.step M;refine Yl (j:=0) (a:=[110,111,116]) K B rfl UR rfl rfl rfl (by simp[U9]) fun _ B=>?_;have M:=B.mem;refine Qb 1 K M fun _ K=>?_;replace B:=B.step M;refine Yl (j:=0) (a:=[97,110,100]) K B rfl UR rfl rfl rfl (by simp[U9]) fun _ B=>?_;have M:=B.mem;refine Qb 1 K M fun _ K=>?_;replace B:=B.step M;refine Yl (j:=0) (a:=[101,120]) K B rfl UR rfl rfl rfl (by simp[U9]) fun _ B=>?_;have M:=B.mem;refine Qb 2 K M ?_;exact⟨c1,rfl,(B.step M).at_ (k:=0) rfl,(B.step M).ve (k:=0) rfl,(B.step M).qt⟩

theorem zP{R:W5}{st:St}(hf:Qh st)(hR:X1 R st.h.get){a:Int}(hr:Yr R (.mk o a b g n l) cs): ∃v st',QV 242 [.agg cs] st v st'∧v=.agg [iZ a,iZ b,iZ g]∧Qt st st':=by
 have hr0:=hr;obtain⟨kc,ls,rfl,hK⟩:=hr.ZG;have hln:=hK.ln;have hbn:=hK.AW;refine Jv Tryz.func242 Tryz.ntmps242 fun T K=>?_;have M:=Mem.start hf;refine Qb 0 K M fun _ K=>?_;refine JK K M rfl (Qa rfl (Qa rfl (Qa rfl (Qa rfl (Qa rfl (Qa hK.cell QL)))))) Q9 fun c1 _ _ K M=>?_;refine au 7 K M ?_;intro c2 _ _ K _ M;refine p1 K (Zr zV HO Z6 O9 rfl rfl) fun _ K=>?_;refine au 1 K M ?_;intro _ _ K _ M;refine Qb 0 K M ?_;exact⟨rfl,M.qt⟩

theorem MK{R:W5}{st:St}(hf:Qh st)(hR:X1 R st.h.get){a:Int}(hr:Yr R (.mk o a b g n l) cs){m:Int}(hc:Ja (.mk o a b g n l) m=true): ∃v st',QV 198 [.agg cs,iZ m] st v st'∧v=.bool true∧Qt st st':=by
 have hr0:=hr;obtain⟨kc,ls,rfl,hK⟩:=hr.ZG;have hln:=hK.ln;have hbn:=hK.AW;obtain⟨vn,bn,kn,hsh,hv0,hv3,hk,hn1,hn2,hn0,hvar,hex⟩:=CH hc;have B:=Ql.start hf;refine Jv Tryz.func198 Tryz.ntmps198 fun T K=>?_;have M:=B.mem;refine Qb 0 K M fun _ K=>?_;refine JK K M rfl (Qa rfl (Qa rfl (Qa rfl (Qa rfl (Qa rfl (Qa hK.cell QL)))))) Q9 fun c2 _ _ K M=>?_;refine Qb 1 K M fun _ K=>?_;refine QT (l:=[(0,0),(1,0),(2,1),(3,0),(4,0),(5,0),(7,0),(8,0),(6,0),(9,0)]) (by kernel_rfl) ?_;have Mq:=M;replace B:=B.step M;obtain⟨v10,st10,ev10,cm,rfl,hmp,nfm,q10⟩:=TO B.fresh;refine qA rfl K (Qf rfl ev10) fun _ K=>?_;replace B:=B.new (o:=VB cm Li W9) q10 hmp nfm;have M:=B.mem;have Mp:=Mq;have Mq:=M;refine UT 1 K M fun _ K=>?_;refine JE rfl K rfl (M.load (k:=0) rfl (Qc HT rfl)) (Mp.load (k:=0) rfl (Qc HT rfl)) (Ul rfl) rfl Q9 fun _ K=>?_;refine qA rfl K (Wd (a:=o) UR ((B.step M).at_ (k:=0) rfl) rfl rfl) fun _ K=>?_;rw[hsh]at K;refine UT 2 K M fun _ K=>?_;refine Cp rfl K M V8 Q9 fun c5 _ _ K M=>?_;refine La (k:=0) rfl K M rfl rfl rfl AM rfl rfl rfl fun _ M=>?_;have Mp:=Mq;have Mq:=M;refine UT 2 K M fun _ K=>?_;refine Jd ?_;show W _ _ _ _ _ _ _;refine Xc ?_;refine fU (J:=fun T st9=>QH [(1,iZ m),(2,.ptr c2 0 0),(4,.bool false),(5,.ptr c5 0 0),(45,.bool (decide (20<n)))] T∧Ql st Ei st9 [(c5,0,[iZ vn,.bool bn,iZ kn]),(c2,0,[.str o,iZ a,iZ b,iZ g,iZ n,kc])] [VB cm Li W9]) ?_ (fun T st9 hJ=>?_)
 ·refine Qb 5 K M fun _ K=>?_;refine pg K rfl rfl (Q0 JI rfl rfl hK.len) fun _ K=>?_;refine Qb 4 K M fun _ K=>?_;refine fM K rfl (fun _ e26 K=>?_) fun _ e26 K=>?_
  · refine Qb 3 K M fun _ K=>?_;refine l4 K rfl rfl (Q8 rfl) rfl fun b30 _ e30 K=>?_;cases b30
    · replace e30:(bn)=true:=by simpa using e30
      refine Qb 10 K M fun _ K=>?_;refine U5 K rfl (fun _ e41 K=>?_) fun _ e41 K=>?_
      · refine Qb 4 K M fun _ K=>?_;exact⟨(K.sub rfl),(B.step M).less (.refl _)⟩
      exfalso;omega
    replace e30:(bn)=false:=by simpa using e30
    refine Qb 5 K M fun _ K=>?_;refine fM K rfl (fun _ e36 K=>?_) fun _ e36 K=>?_
    · refine Qb 4 K M fun _ K=>?_;refine U5 K rfl (fun _ e41 K=>?_) fun _ e41 K=>?_
      · refine Qb 4 K M fun _ K=>?_;exact⟨(K.sub rfl),(B.step M).less (.refl _)⟩
      exfalso;omega
    exfalso;first|omega|(have:=hn0 (by simpa using e30);omega)
  exfalso;omega
 obtain⟨K,B⟩:=hJ;have M:=B.mem;refine U8 K rfl (fun h45=>?_) fun h45=>?_
 ·exfalso;omega
 refine Qb 1 K M fun _ K=>?_;refine oQ K M (zP M.fresh (fun c m l hr=>(B.step M).ZA hf (hR c m l hr) id) hr0) rfl rfl fun _ _ K M=>?_;refine Qb 1 K M fun _ K=>?_;refine Je (fun mm1 T st9=> ∃(i:Nat),mm1=3-i∧QH [(1,iZ m),(2,.ptr c2 0 0),(5,.ptr c5 0 0),(47,.agg [iZ a,iZ b,iZ g]),(48,iN i)] T∧Ql st Ei st9 [(c5,0,[iZ vn,.bool bn,iZ kn]),(c2,0,[.str o,iZ a,iZ b,iZ g,iZ n,kc])] [VB cm Li W9]∧i≤3) (fun mm1 T st9 hI=>?_) _ _ _ ⟨0,rfl,(K.sub rfl),(B.step M).less (.refl _),Qd⟩;obtain⟨i,rfl,K,B,hi⟩:=hI;have M:=B.mem;refine Qb 1 K M fun _ K=>?_;refine U8 K rfl (fun h49=>?_) fun h49=>?_
 ·refine Qb 1 K M fun _ K=>?_;have hx51:=fB a b g (i:=i) Qd;refine p1 K (Mb (j:=i) rfl rfl Qd hx51) fun _ K=>?_;refine Qb 6 K M fun _ K=>?_;refine U5 K rfl (fun _ e57 K=>?_) fun _ e57 K=>?_
  · refine Qb 9 K M fun _ K=>?_;refine U5 K rfl (fun _ e66 K=>?_) fun _ e66 K=>?_
    · refine Qb 17 K M fun _ K=>?_;exact⟨_,Qd,i+1,rfl,(K.sub rfl),(B.step M).less (.refl _),Qd⟩
    refine Qb 2 K M fun _ K=>?_;refine pg K rfl rfl (Bf (b:=[101,120]) rfl rfl) fun _ K=>?_;refine Qb 1 K M fun _ K=>?_;refine fM K rfl (fun _ e71 K=>?_) fun _ e71 K=>?_
    · refine Qb 12 K M fun _ K=>?_;exact⟨_,Qd,i+1,rfl,(K.sub rfl),(B.step M).less (.refl _),Qd⟩
    refine Qb 2 K M fun _ K=>?_;refine xU K rfl rfl (Q8 rfl) rfl (fun _ e74 K=>?_) fun _ e74 K=>?_
    · refine Qb 6 K M fun _ K=>?_;refine UJ K rfl (fun h61=>?_) fun h61=>?_
      · have hb61:=h61;replace h61:=of_decide_eq_true h61;refine Qb 1 K M ?_
        exfalso
        first
         |omega
         |(have h:=(hvar i Qd).1 Qd;omega)
         |(have h:=(hvar i Qd).2 Qd (by assumption);omega)
         |(have h:=hex (by first|assumption|(apply Classical.byContradiction;assumption));omega)
      have hb61:=h61;replace h61:=of_decide_eq_false h61;refine Qb 2 K M fun _ K=>?_;exact⟨_,Qd,i+1,rfl,(K.sub rfl),(B.step M).less (.refl _),Qd⟩
    refine Qb 8 K M ?_
    exfalso
    first
     |omega
     |(have h:=(hvar i Qd).1 Qd;omega)
     |(have h:=(hvar i Qd).2 Qd (by assumption);omega)
     |(have h:=hex (by first|assumption|(apply Classical.byContradiction;assumption));omega)
  refine Qb 4 K M fun _ K=>?_;refine UJ K rfl (fun h52=>?_) fun h52=>?_
  · have hb52:=h52
    replace h52: ¬((Up a b g i)=0):=by first|exact of_decide_eq_false h52|exact yF h52|simpa using h52
    refine Qb 1 K M ?_
    exfalso
    first
     |omega
     |(have h:=(hvar i Qd).1 Qd;omega)
     |(have h:=(hvar i Qd).2 Qd (by assumption);omega)
     |(have h:=hex (by first|assumption|(apply Classical.byContradiction;assumption));omega)
  have hb52:=h52
  replace h52:((Up a b g i)=0):=by first|exact of_decide_eq_true h52|exact yT h52|simpa using h52
  refine Qb 4 K M fun _ K=>?_;refine U5 K rfl (fun _ e66 K=>?_) fun _ e66 K=>?_
  · refine Qb 17 K M fun _ K=>?_;exact⟨_,Qd,i+1,rfl,(K.sub rfl),(B.step M).less (.refl _),Qd⟩
  refine Qb 2 K M fun _ K=>?_;refine pg K rfl rfl (Bf (b:=[101,120]) rfl rfl) fun _ K=>?_;refine Qb 1 K M fun _ K=>?_;refine fM K rfl (fun _ e71 K=>?_) fun _ e71 K=>?_
  · refine Qb 12 K M fun _ K=>?_;exact⟨_,Qd,i+1,rfl,(K.sub rfl),(B.step M).less (.refl _),Qd⟩
  refine Qb 2 K M fun _ K=>?_;refine xU K rfl rfl (Q8 rfl) rfl (fun _ e74 K=>?_) fun _ e74 K=>?_
  · refine Qb 6 K M fun _ K=>?_;refine UJ K rfl (fun h61=>?_) fun h61=>?_
    · have hb61:=h61;replace h61:=of_decide_eq_true h61;refine Qb 1 K M ?_
      exfalso
      first
       |omega
       |(have h:=(hvar i Qd).1 Qd;omega)
       |(have h:=(hvar i Qd).2 Qd (by assumption);omega)
       |(have h:=hex (by first|assumption|(apply Classical.byContradiction;assumption));omega)
    have hb61:=h61;replace h61:=of_decide_eq_false h61;refine Qb 2 K M fun _ K=>?_;exact⟨_,Qd,i+1,rfl,(K.sub rfl),(B.step M).less (.refl _),Qd⟩
  refine Qb 8 K M ?_
  exfalso
  first
   |omega
   |(have h:=(hvar i Qd).1 Qd;omega)
   |(have h:=(hvar i Qd).2 Qd (by assumption);omega)
   |(have h:=hex (by first|assumption|(apply Classical.byContradiction;assumption));omega)
 refine QM ?_;show W _ _ _ _ _ _ _;refine Qb 2 K M fun _ K=>?_;refine p1 K (Bf (b:=[101,120]) rfl rfl) fun _ K=>?_;refine fM K rfl (fun _ e84 K=>?_) fun _ e84 K=>?_
 ·refine Qb 4 K M fun _ K=>?_;refine xU K rfl rfl (Q8 rfl) rfl (fun _ e89 K=>?_) fun _ e89 K=>?_
  · refine Qb 5 K M ?_
    exfalso
    first
     |omega
     |(have h:=(hvar i Qd).1 Qd;omega)
     |(have h:=(hvar i Qd).2 Qd (by assumption);omega)
     |(have h:=hex (by first|assumption|(apply Classical.byContradiction;assumption));omega)
  refine Qb 5 K M ?_;refine⟨congrArg AV.bool (decide_eq_true ?_),(B.step M).qt⟩;exact(hex (by first|assumption|(apply Classical.byContradiction;assumption))).2
 refine Qb 10 K M ?_;exact⟨rfl,(B.step M).qt⟩

theorem M8{R:W5}{st:St}(hf:Qh st)(hR:X1 R st.h.get){kc:AV}{ls:List (List AV)}(hK:Y4 R l kc ls){fo:FuncId}{fa fc:List AV}(hC: ∀(k:Cr) (cs:List AV),k∈l→Yr R k cs→ ∀(st1:St),Qt st st1→ ∃v st',QV fo (fa++([.agg cs]++fc)) st1 v st'∧v=.bool false∧Qt st1 st'): ∃v st',QV 243 [kc,(.fn fo fa fc)] st v st'∧v=iZ (-1)∧Qt st st':=by
 have hbn:=hK.AW;refine Jv Tryz.func243 Tryz.ntmps243 fun T K=>?_;have M:=Mem.start hf;refine Qb 2 K M fun _ K=>?_;refine p1 K (Q0 JI rfl rfl hK.len) fun _ K=>?_;refine Qb 1 K M fun _ K=>?_;refine Je (fun mm1 T st9=> ∃(i:Nat),mm1=l.length-i∧QH [(0,kc),(1,(.fn fo fa fc)),(7,iZ (l.length:Nat)),(8,iN i)] T∧Mem st.h.get st.n [] st9 []∧i≤l.length) (fun mm1 T st9 hI=>?_) _ _ _ ⟨0,rfl,(K.sub rfl),M.less (.refl _),(Nat.zero_le _)⟩;obtain⟨i,rfl,K,M,hi⟩:=hI;refine Qb 1 K M fun _ K=>?_;refine U8 K rfl (fun h9=>?_) fun h9=>?_
 ·refine Qb 5 K M fun _ K=>?_;obtain⟨⟨o14,a14,b14,g14,n14,l14⟩,hi14⟩: ∃k,l[i]? =some k:=⟨_,List.getElem?_eq_getElem Qd⟩;have hm14:=yB hi14;obtain⟨_,hc14,hn14⟩:=hK.get hi14;have hp14:=hn14;obtain⟨kc14,ls14,rfl,hK14⟩:=hp14.ZG;refine aA (hK.r (M.X1 hR)) hc14 K Yf Jh rfl rfl fun _ _ _ _ K=>?_;obtain⟨v16,st16,ev16,rfl,q16⟩:=hC _ _ hm14 hn14 _ M.qt;refine p1 K (Z2 rfl rfl ev16) fun _ K=>?_;replace M:=M.quiet q16;refine Qb 3 K M fun _ K=>?_;exact⟨_,Qd,i+1,rfl,(K.sub rfl),M.less (.refl _),Qd⟩
 refine QM ?_;show W _ _ _ _ _ _ _;refine Qb 1 K M ?_;exact⟨rfl,M.qt⟩

theorem H6{R:W5}{st:St}(hf:Qh st)(hR:X1 R st.h.get){kc:AV}{ls:List (List AV)}(hK:Y4 R l kc ls){fo:FuncId}{fa fc:List AV}(hC: ∀(k:Cr) (cs:List AV),k∈l→Yr R k cs→ ∀(st1:St),Qt st st1→ ∃v st',QV fo (fa++([.agg cs]++fc)) st1 v st'∧v=.bool false∧Qt st1 st'): ∃v st',QV 199 [kc,(.fn fo fa fc)] st v st'∧v=.bool false∧Qt st st':=by
 refine Jv Tryz.func199 Tryz.ntmps199 fun T K=>?_;have M:=Mem.start hf;refine Qb 3 K M fun _ K=>?_;refine oQ K M (M8 M.fresh (M.X1 hR) hK (fun k cs hm hk st1 q=>hC k cs hm hk st1 (M.qt.trans q))) rfl rfl fun _ _ K M=>?_;refine Qb 2 K M ?_;exact⟨rfl,M.qt⟩

theorem SQ{R:W5}{st:St}(hf:Qh st)(hR:X1 R st.h.get){k:Cr}(hr:Yr R k cs){c3:Nat}{m:Int}(h3:Qu st.h.get c3 0 [iZ m])(ih: ∀(st1:St),Qt st st1→X1 R st1.h.get→ ∃v st',QV 153 [.agg cs,iZ m] st1 v st'∧v=.bool true∧Qt st1 st'): ∃v st',QV 200 [.agg cs,.ptr c3 0 0] st v st'∧v=.bool false∧Qt st st':=by
 have hp:=hr;obtain⟨o,a,b,g,n,l,kc,ls,rfl,rfl,hK⟩:=hp.er;refine Jv Tryz.func200 Tryz.ntmps200 fun T K=>?_;have M:=Mem.start hf;refine Qb 0 K M fun _ K=>?_;refine JK K M rfl (Qa rfl (Qa rfl (Qa rfl (Qa rfl (Qa rfl (Qa hK.cell QL)))))) Q9 fun c2 _ _ K M=>?_;refine Qb 2 K M fun _ K=>?_;refine p1 K (Qi rfl (Qr (M.Jf Qx h3.QI) (Qc Qs rfl))) fun _ K=>?_;refine oQ K M (ih _ M.qt (M.X1 hR)) rfl rfl fun _ _ K M=>?_;refine Qb 2 K M ?_;exact⟨rfl,M.qt⟩

theorem vG(x:Cr): ∀(m:Int) (R:W5) (st:St) (cs:List AV),Qh st→X1 R st.h.get→Yr R x cs→Ja x m=true→ -100≤m→m≤100→ ∃v st',QV 153 [.agg cs,iZ m] st v st'∧v=.bool true∧Qt st st':=by
 refine BE (M:=fun x=> ∀(m:Int) (R:W5) (st:St) (cs:List AV),Qh st→X1 R st.h.get→Yr R x cs→Ja x m=true→ -100≤m→m≤100→ ∃v st',QV 153 [.agg cs,iZ m] st v st'∧v=.bool true∧Qt st st') (fun o a b g n l ih=>?_) x;intro m R st cs hf hR hr hc hm1 hm2;have hr0:=hr;obtain⟨kc,ls,rfl,hK⟩:=hr.ZG;have hln:=hK.ln;have hbn:=hK.AW;refine Jv Tryz.func153 Tryz.ntmps153 fun T K=>?_;have M:=Mem.start hf;refine Qb 0 K M fun _ K=>?_;refine JK K M rfl (Qa rfl (Qa rfl (Qa rfl (Qa rfl (Qa rfl (Qa hK.cell QL)))))) Q9 fun c2 _ _ K M=>?_;refine au 4 K M ?_;intro c3 _ _ K _ M;refine oQ K M (MK M.fresh (M.X1 hR) hr0 hc) rfl rfl fun _ _ K M=>?_;refine Qb 4 K M fun _ K=>?_;refine p1 K (JM (b:=[101,120]) rfl rfl) fun _ K=>?_;refine Qb 0 K M fun _ K=>?_;refine U8 K rfl (fun h11=>?_) fun h11=>?_
 ·have hcx:=hc;rw[Ja,if_pos h11]at hcx;simp only[Bool.and_eq_true,decide_eq_true_eq]at hcx;obtain⟨_,_,_,_,hm6,_,_,hcl⟩:=hcx;refine au 5 K M ?_;intro _ _ K _ M;refine p1 K (Y6 rfl rfl) fun _ K=>?_;have r3:=M.Ud (k:=0) rfl;obtain⟨v17,st17,ev17,rfl,q17⟩:=H6 (R:=R) M.fresh (M.X1 hR) hK (fo:=200) (fa:=[]) (fc:=[.ptr c3 0 0]) (fun k cs hm hk st1 q=>SQ (m:=(m+1)) q.fresh (fun c m l hr=>by obtain⟨ro,e,vs,ms,h2,h3⟩:=M.X1 hR c m l hr;exact⟨ro,e,vs,ms,by rw[q.J5 c (Nat.lt_of_not_le fun hle=>by rw[M.fresh c hle]at h2;cases h2)];exact h2,h3⟩) hk (r3.frame (q.J5 c3 (r3.lt M.fresh))) (fun st2 q2 hR2=>ih k hm _ R _ _ q2.fresh hR2 hk (Gm hcl hm) Qd Qd));refine p1 K (Qf rfl ev17) fun _ K=>?_;replace M:=M.quiet q17;refine Qb 2 K M ?_;exact⟨rfl,M.qt⟩
 refine Qb 0 K M fun _ K=>?_;have hcx:=hc;rw[Ja,if_neg h11]at hcx;simp only[Bool.and_eq_true,decide_eq_true_eq]at hcx;obtain⟨_,_,_,_,_,_,hcl⟩:=hcx;refine Qb 2 K M fun _ K=>?_;refine p1 K (Y6 rfl rfl) fun _ K=>?_;have r3:=M.Ud (k:=0) rfl;obtain⟨v17,st17,ev17,rfl,q17⟩:=H6 (R:=R) M.fresh (M.X1 hR) hK (fo:=200) (fa:=[]) (fc:=[.ptr c3 0 0]) (fun k cs hm hk st1 q=>SQ (m:=m) q.fresh (fun c m l hr=>by obtain⟨ro,e,vs,ms,h2,h3⟩:=M.X1 hR c m l hr;exact⟨ro,e,vs,ms,by rw[q.J5 c (Nat.lt_of_not_le fun hle=>by rw[M.fresh c hle]at h2;cases h2)];exact h2,h3⟩) hk (r3.frame (q.J5 c3 (r3.lt M.fresh))) (fun st2 q2 hR2=>ih k hm _ R _ _ q2.fresh hR2 hk (Gm hcl hm) Qd Qd));refine p1 K (Qf rfl ev17) fun _ K=>?_;replace M:=M.quiet q17;refine Qb 2 K M ?_;exact⟨rfl,M.qt⟩

theorem Tg{R:W5}{st:St}(hf:Qh st)(hR:X1 R st.h.get){a:Int}(hr:Yr R (.mk o a b g n l) cs){m:Int}(h0:0≤m)(h6:m≤6)(hsz:Xx (.mk o a b g n l)≤2000)(hc:Ja (.mk o a b g n l) m=true): ∃v st',QV 104 [.agg cs,iZ m] st v st'∧v=.bool true∧Qt st st':=by
 have hr0:=hr;obtain⟨kc,ls,rfl,hK⟩:=hr.ZG;have hln:=hK.ln;have hbn:=hK.AW;refine Jv Tryz.func104 Tryz.ntmps104 fun T K=>?_;have M:=Mem.start hf;refine Qb 0 K M fun _ K=>?_;refine JK K M rfl (Qa rfl (Qa rfl (Qa rfl (Qa rfl (Qa rfl (Qa hK.cell QL)))))) Q9 fun c2 _ _ K M=>?_;refine Qb 3 K M fun _ K=>?_;refine U5 K rfl (fun _ e7 K=>?_) fun _ e7 K=>?_
 ·exfalso;omega
 refine Qb 3 K M fun _ K=>?_;refine U5 K rfl (fun _ e11 K=>?_) fun _ e11 K=>?_
 ·exfalso;omega
 refine Qb 1 K M fun _ K=>?_;obtain⟨v13,st13,ev13,rfl,q13⟩:=MV M.fresh (M.X1 hR) hr0;refine pg K rfl rfl (Qf rfl ev13) fun _ K=>?_;replace M:=M.quiet q13;refine Qb 2 K M fun _ K=>?_;refine U5 K rfl (fun _ e16 K=>?_) fun _ e16 K=>?_
 ·exfalso;omega
 refine Qb 2 K M fun _ K=>?_;obtain⟨v19,st19,ev19,rfl,q19⟩:=vG (.mk o a b g n l) m R _ _ M.fresh (M.X1 hR) hr0 hc Qd Qd;refine pg K rfl rfl (Qf rfl ev19) fun _ K=>?_;replace M:=M.quiet q19;refine Qb 2 K M ?_;exact⟨rfl,M.qt⟩
end Go.Proofs.YtildagdnomiahaaGreatDoor
