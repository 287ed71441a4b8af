/-
  Core formulas that may be: the program says so.
-/
import Derived.Test.YtildagdnomiahaaGreatDoorQgCor
namespace Go.Proofs.YtildagdnomiahaaGreatDoor
open Go Go.RowKit
set_option maxHeartbeats 8000000
set_option linter.unusedVariables false
set_option linter.unusedSimpArgs false
set_option linter.unnecessarySimpa false
set_option linter.unusedSectionVars false
set_option maxRecDepth 100000
variable {b g n:Int} {cs:List AV} {l:List Cr} {o:List Nat}

abbrev IT(x:List Nat):AV:=.str x
theorem jR:Tryz.prog.underlying 280=some (.map 9 278):=by kernel_rfl
theorem jV:Tryz.prog.underlying 282=some (.array 3 3):=by kernel_rfl
theorem yI:Vd Tryz.prog 282=some (3,3):=by kernel_rfl
abbrev sh(v:Int)(b:Bool)(k:Int):AV:=.agg [.int .i64 v,.bool b,.int .i64 k]
theorem UE:XF Tryz.prog 280 IT (sh 0 false 0):=⟨9,278,.string,jR,FK,by kernel_rfl,fun a=>rfl,fun a i=>rfl,fun a b v n es i=>by
 have e:U4 Tryz.prog 9 .string (IT a) ((IT b,v,n)::es) i=Ql (NO a b) (some (some (i,v))) (U4 Tryz.prog 9 .string (IT a) es (i+1)):=by
  refine(X7 .string (IT a) (IT b,v,n) es i).trans ?_;show ob (some (NO a b)) _=_;rw[Qk];rfl
 rw[e,Zc]
 exact⟨fun h=>by rw[decide_eq_true h];rfl,fun h=>by rw[decide_eq_false h];rfl⟩⟩
section
variable {α:Type} {key:α→AV} {P:Program} {G:Env} {N:Nat} {st0 st:St} {X0:Fp} {M:QK} {Os:List Ob} {T:Tr AV} {ops rest:List Oper} {K:List (Nat×AV)} {R:Tr AV→St→Prop} {t ty:TypeId} {pos:String} {af:Array Edge} {z:AV} {vl:List AV} {cm j:Nat} {L:List (α×AV)} {a:α} {m k x:Operand}
theorem uI(Tk:XF P t key z){n:Nat}{es:List (AV×AV×Nat)}(hc:st.h.get cm=some (.map es n))(he:L7 key es L)(hm:QD G K m=some (.mp cm))(hk:QD G K k=some (key a))(hx:QD G K x=some (.agg vl))(hn:Uz L a=none):
  Uf P G K (.insert t m k x) st (.tup []) (WI st cm n es (key a) (.agg vl)):=.of fun T' hT c d ty pos af g=>by
 obtain⟨kt,et,d',u1,u2,u3,u4,u5,u6⟩:=Tk.rule;show(ob (QU G T' m) fun m=>ob (QU G T' k) fun k=>ob (QU G T' x) fun x=>Y4 P t m k x st)=_;rw[hT.QU hm,hT.QU hk,hT.QU hx,Qk,Qk,Qk];unfold Y4 WI;obtain⟨f1,f2⟩:=XF.find (P:=P) (t:=t) (z:=z) (et:=et) u5 u6 a L es 0 he;simp only[u1,u2,u4,Q7,hc,Qk,f1 hn,Bool.or_true,Ju,JL,QI,JX]
theorem UW(hK:QE K T)(B:Qj st0 X0 st M Os)(hj:Os[j]? =some (XZ cm key L))(Tk:XF P t key z)(hm:QD G K m=some (.mp cm))(hk:QD G K k=some (key a))(hx:QD G K x=some (.agg vl))(hn:Uz L a=none)
  (hr: ∀st',Qj st0 X0 st' M (Os.set j (XZ cm key (L++[(a,.agg vl)])))→WR P G N ops rest R T st'):WR P G N ops (⟨none,.insert t m k x,ty,pos,af,none⟩::rest) R T st:=by
 obtain⟨es,n,hc,he⟩:=B.at_ hj;exact P4 hK (uI Tk hc he hm hk hx hn) (hr _ (B.OT hj hc he a (.agg vl)))
end
def VP:List (List Nat×AV):=[([116,114,117,101],sh 0 false 0),([115,117,98],sh 2 false 0),([115,105,110,103],sh 1 false 0),([102,108,97,103],sh 1 false 0),([110,111,110,101],sh 1 false 0),([108,101,115,115],sh 2 false 0),([112,108,117,115],sh 2 true 0),([110,117,109],sh 1 true 0),([117,110,105,111,110],sh 3 false 0),([105,110,116,101,114],sh 3 false 0),([109,105,110,117,115],sh 3 false 0),([110,111,116],sh 0 false 1),([97,110,100],sh 0 false 2),([101,120],sh 1 false 1)]
def Ue(a b g:Int)(i:Nat):Int:=if i=0 then a else if i=1 then b else g
theorem vf(a b g:Int){i:Nat}(h:i<3):([AV.int .i64 a,.int .i64 b,.int .i64 g]:List AV)[i]? =some (.int .i64 (Ue a b g i)):=by
 match i,h with
 |0,_=>rfl
 |1,_=>rfl
 |2,_=>rfl
theorem Sc{G:Env}{K:List (Nat×AV)}{st:St}{x i:Operand}{l:List AV}{j:Nat}{v:AV}(hx:QD G K x=some (.agg l))(hi:QD G K i=some (.int .i64 (j:Nat)))(hj:j<3)(hv:l[j]? =some v):Uf Tryz.prog G K (.index 282 x i) st v st:=.of fun T hT cc d ty pos af g=>by
 show ret (ob (QU G T x) fun x=>ob (QU G T i) fun i=>KF Tryz.prog 282 x i) st=_;rw[hT.QU hx,hT.QU hi,Qk,Qk];unfold KF;show ret (ob (Vd Tryz.prog 282) fun q=>ob (GI ((j:Nat):Int)) fun i=>Q5 (Nat.ble (i+1) q.1) (ZZ Tryz.prog q.2 l (i *Tryz.prog.cellsOf q.2))) st=_;rw[yI,Qk,show GI ((j:Nat):Int)=some j from rfl,Qk,Zf,Nat.mul_one,show Nat.ble (j+1) 3=true from Nat.ble_eq_true_of_le hj,Q7];unfold ZZ;rw[Qq];show ret (nth l j) st=_;rw[JP,hv];rfl
theorem Bb{a m:Int}(h:J1 (.mk o a b g n l) m=true): ∃vn bn kn,Uz VP o=some (sh vn bn kn)∧0≤vn∧vn≤3∧((l.length:Nat):Int)=kn∧0≤n∧n<21∧(bn=false→n=0)∧(∀i:Nat,i<3→(vn≤i→Ue a b g i=0)∧((i:Int)<vn→o≠[101,120]→0≤Ue a b g i∧Ue a b g i<m))∧(o=[101,120]→a=m∧m<6):=by
 have hi: ∀{P:Nat→Prop},P 0→P 1→P 2→ ∀i,i<3→P i:=fun h0 h1 h2 i hi=>by
  match i,hi with
  |0,_=>exact h0
  |1,_=>exact h1
  |2,_=>exact h2
 rw[J1]at h;simp only[Bool.and_eq_true,decide_eq_true_eq]at h;obtain⟨h1,h2,h3,h4⟩:=h
 by_cases e0:o=[116,114,117,101]
 ·subst e0;have h2:((l.length:Nat):Int)=0:=h2.trans Q8;simp[Zw,UT]at h3 h4;exact⟨0,false,0,by simp[Uz,VP],by omega,by omega,h2,by omega,by omega,(fun hb=>by first|omega|cases hb),hi ⟨(fun h=>by simp only[Ue];first|omega|simp_all),(fun h e=>by simp only[Ue];first|omega|(simp at e;done)|simp_all)⟩ ⟨(fun h=>by simp only[Ue];first|omega|simp_all),(fun h e=>by simp only[Ue];first|omega|(simp at e;done)|simp_all)⟩ ⟨(fun h=>by simp only[Ue];first|omega|simp_all),(fun h e=>by simp only[Ue];first|omega|(simp at e;done)|simp_all)⟩,fun e=>by first|(simp at e;done)|omega|simp_all⟩
 by_cases e1:o=[115,117,98]
 ·subst e1;have h2:((l.length:Nat):Int)=0:=h2.trans Q8;simp[Zw,UT]at h3 h4;exact⟨2,false,0,by simp[Uz,VP],by omega,by omega,h2,by omega,by omega,(fun hb=>by first|omega|cases hb),hi ⟨(fun h=>by simp only[Ue];first|omega|simp_all),(fun h e=>by simp only[Ue];first|omega|(simp at e;done)|simp_all)⟩ ⟨(fun h=>by simp only[Ue];first|omega|simp_all),(fun h e=>by simp only[Ue];first|omega|(simp at e;done)|simp_all)⟩ ⟨(fun h=>by simp only[Ue];first|omega|simp_all),(fun h e=>by simp only[Ue];first|omega|(simp at e;done)|simp_all)⟩,fun e=>by first|(simp at e;done)|omega|simp_all⟩
 by_cases e2:o=[115,105,110,103]
 ·subst e2;have h2:((l.length:Nat):Int)=0:=h2.trans Q8;simp[Zw,UT]at h3 h4;exact⟨1,false,0,by simp[Uz,VP],by omega,by omega,h2,by omega,by omega,(fun hb=>by first|omega|cases hb),hi ⟨(fun h=>by simp only[Ue];first|omega|simp_all),(fun h e=>by simp only[Ue];first|omega|(simp at e;done)|simp_all)⟩ ⟨(fun h=>by simp only[Ue];first|omega|simp_all),(fun h e=>by simp only[Ue];first|omega|(simp at e;done)|simp_all)⟩ ⟨(fun h=>by simp only[Ue];first|omega|simp_all),(fun h e=>by simp only[Ue];first|omega|(simp at e;done)|simp_all)⟩,fun e=>by first|(simp at e;done)|omega|simp_all⟩
 by_cases e3:o=[102,108,97,103]
 ·subst e3;have h2:((l.length:Nat):Int)=0:=h2.trans Q8;simp[Zw,UT]at h3 h4;exact⟨1,false,0,by simp[Uz,VP],by omega,by omega,h2,by omega,by omega,(fun hb=>by first|omega|cases hb),hi ⟨(fun h=>by simp only[Ue];first|omega|simp_all),(fun h e=>by simp only[Ue];first|omega|(simp at e;done)|simp_all)⟩ ⟨(fun h=>by simp only[Ue];first|omega|simp_all),(fun h e=>by simp only[Ue];first|omega|(simp at e;done)|simp_all)⟩ ⟨(fun h=>by simp only[Ue];first|omega|simp_all),(fun h e=>by simp only[Ue];first|omega|(simp at e;done)|simp_all)⟩,fun e=>by first|(simp at e;done)|omega|simp_all⟩
 by_cases e4:o=[110,111,110,101]
 ·subst e4;have h2:((l.length:Nat):Int)=0:=h2.trans Q8;simp[Zw,UT]at h3 h4;exact⟨1,false,0,by simp[Uz,VP],by omega,by omega,h2,by omega,by omega,(fun hb=>by first|omega|cases hb),hi ⟨(fun h=>by simp only[Ue];first|omega|simp_all),(fun h e=>by simp only[Ue];first|omega|(simp at e;done)|simp_all)⟩ ⟨(fun h=>by simp only[Ue];first|omega|simp_all),(fun h e=>by simp only[Ue];first|omega|(simp at e;done)|simp_all)⟩ ⟨(fun h=>by simp only[Ue];first|omega|simp_all),(fun h e=>by simp only[Ue];first|omega|(simp at e;done)|simp_all)⟩,fun e=>by first|(simp at e;done)|omega|simp_all⟩
 by_cases e5:o=[108,101,115,115]
 ·subst e5;have h2:((l.length:Nat):Int)=0:=h2.trans Q8;simp[Zw,UT]at h3 h4;exact⟨2,false,0,by simp[Uz,VP],by omega,by omega,h2,by omega,by omega,(fun hb=>by first|omega|cases hb),hi ⟨(fun h=>by simp only[Ue];first|omega|simp_all),(fun h e=>by simp only[Ue];first|omega|(simp at e;done)|simp_all)⟩ ⟨(fun h=>by simp only[Ue];first|omega|simp_all),(fun h e=>by simp only[Ue];first|omega|(simp at e;done)|simp_all)⟩ ⟨(fun h=>by simp only[Ue];first|omega|simp_all),(fun h e=>by simp only[Ue];first|omega|(simp at e;done)|simp_all)⟩,fun e=>by first|(simp at e;done)|omega|simp_all⟩
 by_cases e6:o=[112,108,117,115]
 ·subst e6;have h2:((l.length:Nat):Int)=0:=h2.trans Q8;simp[Zw,UT]at h3 h4;exact⟨2,true,0,by simp[Uz,VP],by omega,by omega,h2,by omega,by omega,(fun hb=>by first|omega|cases hb),hi ⟨(fun h=>by simp only[Ue];first|omega|simp_all),(fun h e=>by simp only[Ue];first|omega|(simp at e;done)|simp_all)⟩ ⟨(fun h=>by simp only[Ue];first|omega|simp_all),(fun h e=>by simp only[Ue];first|omega|(simp at e;done)|simp_all)⟩ ⟨(fun h=>by simp only[Ue];first|omega|simp_all),(fun h e=>by simp only[Ue];first|omega|(simp at e;done)|simp_all)⟩,fun e=>by first|(simp at e;done)|omega|simp_all⟩
 by_cases e7:o=[110,117,109]
 ·subst e7;have h2:((l.length:Nat):Int)=0:=h2.trans Q8;simp[Zw,UT]at h3 h4;exact⟨1,true,0,by simp[Uz,VP],by omega,by omega,h2,by omega,by omega,(fun hb=>by first|omega|cases hb),hi ⟨(fun h=>by simp only[Ue];first|omega|simp_all),(fun h e=>by simp only[Ue];first|omega|(simp at e;done)|simp_all)⟩ ⟨(fun h=>by simp only[Ue];first|omega|simp_all),(fun h e=>by simp only[Ue];first|omega|(simp at e;done)|simp_all)⟩ ⟨(fun h=>by simp only[Ue];first|omega|simp_all),(fun h e=>by simp only[Ue];first|omega|(simp at e;done)|simp_all)⟩,fun e=>by first|(simp at e;done)|omega|simp_all⟩
 by_cases e8:o=[117,110,105,111,110]
 ·subst e8;have h2:((l.length:Nat):Int)=0:=h2.trans Q8;simp[Zw,UT]at h3 h4;exact⟨3,false,0,by simp[Uz,VP],by omega,by omega,h2,by omega,by omega,(fun hb=>by first|omega|cases hb),hi ⟨(fun h=>by simp only[Ue];first|omega|simp_all),(fun h e=>by simp only[Ue];first|omega|(simp at e;done)|simp_all)⟩ ⟨(fun h=>by simp only[Ue];first|omega|simp_all),(fun h e=>by simp only[Ue];first|omega|(simp at e;done)|simp_all)⟩ ⟨(fun h=>by simp only[Ue];first|omega|simp_all),(fun h e=>by simp only[Ue];first|omega|(simp at e;done)|simp_all)⟩,fun e=>by first|(simp at e;done)|omega|simp_all⟩
 by_cases e9:o=[105,110,116,101,114]
 ·subst e9;have h2:((l.length:Nat):Int)=0:=h2.trans Q8;simp[Zw,UT]at h3 h4;exact⟨3,false,0,by simp[Uz,VP],by omega,by omega,h2,by omega,by omega,(fun hb=>by first|omega|cases hb),hi ⟨(fun h=>by simp only[Ue];first|omega|simp_all),(fun h e=>by simp only[Ue];first|omega|(simp at e;done)|simp_all)⟩ ⟨(fun h=>by simp only[Ue];first|omega|simp_all),(fun h e=>by simp only[Ue];first|omega|(simp at e;done)|simp_all)⟩ ⟨(fun h=>by simp only[Ue];first|omega|simp_all),(fun h e=>by simp only[Ue];first|omega|(simp at e;done)|simp_all)⟩,fun e=>by first|(simp at e;done)|omega|simp_all⟩
 by_cases e10:o=[109,105,110,117,115]
 ·subst e10;have h2:((l.length:Nat):Int)=0:=h2.trans Q8;simp[Zw,UT]at h3 h4;exact⟨3,false,0,by simp[Uz,VP],by omega,by omega,h2,by omega,by omega,(fun hb=>by first|omega|cases hb),hi ⟨(fun h=>by simp only[Ue];first|omega|simp_all),(fun h e=>by simp only[Ue];first|omega|(simp at e;done)|simp_all)⟩ ⟨(fun h=>by simp only[Ue];first|omega|simp_all),(fun h e=>by simp only[Ue];first|omega|(simp at e;done)|simp_all)⟩ ⟨(fun h=>by simp only[Ue];first|omega|simp_all),(fun h e=>by simp only[Ue];first|omega|(simp at e;done)|simp_all)⟩,fun e=>by first|(simp at e;done)|omega|simp_all⟩
 by_cases e11:o=[110,111,116]
 ·subst e11;have h2:((l.length:Nat):Int)=1:=h2.trans Q8;simp[Zw,UT]at h3 h4;exact⟨0,false,1,by simp[Uz,VP],by omega,by omega,h2,by omega,by omega,(fun hb=>by first|omega|cases hb),hi ⟨(fun h=>by simp only[Ue];first|omega|simp_all),(fun h e=>by simp only[Ue];first|omega|(simp at e;done)|simp_all)⟩ ⟨(fun h=>by simp only[Ue];first|omega|simp_all),(fun h e=>by simp only[Ue];first|omega|(simp at e;done)|simp_all)⟩ ⟨(fun h=>by simp only[Ue];first|omega|simp_all),(fun h e=>by simp only[Ue];first|omega|(simp at e;done)|simp_all)⟩,fun e=>by first|(simp at e;done)|omega|simp_all⟩
 by_cases e12:o=[97,110,100]
 ·subst e12;have h2:((l.length:Nat):Int)=2:=h2.trans Q8;simp[Zw,UT]at h3 h4;exact⟨0,false,2,by simp[Uz,VP],by omega,by omega,h2,by omega,by omega,(fun hb=>by first|omega|cases hb),hi ⟨(fun h=>by simp only[Ue];first|omega|simp_all),(fun h e=>by simp only[Ue];first|omega|(simp at e;done)|simp_all)⟩ ⟨(fun h=>by simp only[Ue];first|omega|simp_all),(fun h e=>by simp only[Ue];first|omega|(simp at e;done)|simp_all)⟩ ⟨(fun h=>by simp only[Ue];first|omega|simp_all),(fun h e=>by simp only[Ue];first|omega|(simp at e;done)|simp_all)⟩,fun e=>by first|(simp at e;done)|omega|simp_all⟩
 by_cases e13:o=[101,120]
 ·subst e13;have h2:((l.length:Nat):Int)=1:=h2.trans Q8;simp[Zw,UT]at h3 h4;exact⟨1,false,1,by simp[Uz,VP],by omega,by omega,h2,by omega,by omega,(fun hb=>by first|omega|cases hb),hi ⟨(fun h=>by simp only[Ue];first|omega|simp_all),(fun h e=>by simp only[Ue];first|omega|(simp at e;done)|simp_all)⟩ ⟨(fun h=>by simp only[Ue];first|omega|simp_all),(fun h e=>by simp only[Ue];first|omega|(simp at e;done)|simp_all)⟩ ⟨(fun h=>by simp only[Ue];first|omega|simp_all),(fun h e=>by simp only[Ue];first|omega|(simp at e;done)|simp_all)⟩,fun e=>by first|(simp at e;done)|omega|simp_all⟩
 simp[Zw,Ne.symm, *]at h1

theorem RQ{st:St}(hf:Qg st): ∃v st',QR 241 [] st v st'∧ ∃cm,v=.mp cm∧(XZ cm IT VP).H st'.h.get∧XE st st' (fun c=>c=cm)∧Qt st st':=by
 have B:=Qj.start hf;refine Jq Tryz.func241 Tryz.ntmps241 fun T K=>?_;have M:=B.mem;refine Qb 1 K M fun _ K=>?_;replace B:=B.step M;refine Vm IT K B rfl fun c1 _ _ K B=>?_;have M:=B.mem;refine Qb 1 K M fun _ K=>?_;replace B:=B.step M;refine UW (j:=0) (a:=[116,114,117,101]) K B rfl UE rfl rfl rfl (by simp[Uz]) fun _ B=>?_;have M:=B.mem;refine Qb 1 K M fun _ K=>?_;replace B:=B.step M;refine UW (j:=0) (a:=[115,117,98]) K B rfl UE rfl rfl rfl (by simp[Uz]) fun _ B=>?_;have M:=B.mem;refine Qb 1 K M fun _ K=>?_;replace B:=B.step M;refine UW (j:=0) (a:=[115,105,110,103]) K B rfl UE rfl rfl rfl (by simp[Uz]) fun _ B=>?_;have M:=B.mem;refine Qb 1 K M fun _ K=>?_;replace B:=B.step M;refine UW (j:=0) (a:=[102,108,97,103]) K B rfl UE rfl rfl rfl (by simp[Uz]) fun _ B=>?_;have M:=B.mem;refine Qb 1 K M fun _ K=>?_;replace B:=B.step M;refine UW (j:=0) (a:=[110,111,110,101]) K B rfl UE rfl rfl rfl (by simp[Uz]) fun _ B=>?_;have M:=B.mem;refine Qb 1 K M fun _ K=>?_;replace B:=B.step M;refine UW (j:=0) (a:=[108,101,115,115]) K B rfl UE rfl rfl rfl (by simp[Uz]) fun _ B=>?_;have M:=B.mem;refine Qb 1 K M fun _ K=>?_;replace B:=B.step M;refine UW (j:=0) (a:=[112,108,117,115]) K B rfl UE rfl rfl rfl (by simp[Uz]) fun _ B=>?_;have M:=B.mem;refine Qb 1 K M fun _ K=>?_;replace B:=B.step M;refine UW (j:=0) (a:=[110,117,109]) K B rfl UE rfl rfl rfl (by simp[Uz]) fun _ B=>?_;have M:=B.mem;refine Qb 1 K M fun _ K=>?_;replace B:=B.step M;refine UW (j:=0) (a:=[117,110,105,111,110]) K B rfl UE rfl rfl rfl (by simp[Uz]) fun _ B=>?_;have M:=B.mem;refine Qb 1 K M fun _ K=>?_;replace B:=B.step M;refine UW (j:=0) (a:=[105,110,116,101,114]) K B rfl UE rfl rfl rfl (by simp[Uz]) fun _ B=>?_;have M:=B.mem;refine Qb 1 K M fun _ K=>?_;replace B:=B.step M;refine UW (j:=0) (a:=[109,105,110,117,115]) K B rfl UE rfl rfl rfl (by simp[Uz]) fun _ B=>?_;have M:=B.mem;refine Qb 1 K M fun _ K=>?_;replace B:=B.step M;refine UW (j:=0) (a:=[110,111,116]) K B rfl UE rfl rfl rfl (by simp[Uz]) fun _ B=>?_;have M:=B.mem;refine Qb 1 K M fun _ K=>?_;replace B:=B.step M;refine UW (j:=0) (a:=[97,110,100]) K B rfl UE rfl rfl rfl (by simp[Uz]) fun _ B=>?_;have M:=B.mem;refine Qb 1 K M fun _ K=>?_;replace B:=B.step M;refine UW (j:=0) (a:=[101,120]) K B rfl UE rfl rfl rfl (by simp[Uz]) fun _ B=>?_;have M:=B.mem;refine Qb 2 K M ?_;exact⟨c1,rfl,(B.step M).at_ (k:=0) rfl,(B.step M).ya (k:=0) rfl,(B.step M).qt⟩

theorem jP{R:Vl}{st:St}(hf:Qg st)(hR:ZL R st.h.get){a:Int}(hr:Uy R (.mk o a b g n l) cs): ∃v st',QR 242 [.agg cs] st v st'∧v=.agg [iZ a,iZ b,iZ g]∧Qt st st':=by
 have hr0:=hr;obtain⟨kc,ls,rfl,hK⟩:=hr.YN;have hln:=hK.ln;have hbn:=hK.EA;refine Jq Tryz.func242 Tryz.ntmps242 fun T K=>?_;have M:=Mem.start hf;refine Qb 0 K M fun _ K=>?_;refine J3 K M rfl (Qa rfl (Qa rfl (Qa rfl (Qa rfl (Qa rfl (Qa hK.cell Q9)))))) Q8 fun c1 _ _ K M=>?_;refine au 7 K M ?_;intro c2 _ _ K _ M;refine p1 K (YM jV FJ Zf Nv rfl rfl) fun _ K=>?_;refine au 1 K M ?_;intro _ _ K _ M;refine Qb 0 K M ?_;exact⟨rfl,M.qt⟩

theorem SN{R:Vl}{st:St}(hf:Qg st)(hR:ZL R st.h.get){a:Int}(hr:Uy R (.mk o a b g n l) cs){m:Int}(hc:J1 (.mk o a b g n l) m=true): ∃v st',QR 198 [.agg cs,iZ m] st v st'∧v=.bool true∧Qt st st':=by
 have hr0:=hr;obtain⟨kc,ls,rfl,hK⟩:=hr.YN;have hln:=hK.ln;have hbn:=hK.EA;obtain⟨vn,bn,kn,hsh,hv0,hv3,hk,hn1,hn2,hn0,hvar,hex⟩:=Bb hc;have B:=Qj.start hf;refine Jq Tryz.func198 Tryz.ntmps198 fun T K=>?_;have M:=B.mem;refine Qb 0 K M fun _ K=>?_;refine J3 K M rfl (Qa rfl (Qa rfl (Qa rfl (Qa rfl (Qa rfl (Qa hK.cell Q9)))))) Q8 fun c2 _ _ K M=>?_;refine Qb 1 K M fun _ K=>?_;refine QQ (l:=[(0,0),(1,0),(2,1),(3,0),(4,0),(5,0),(7,0),(8,0),(6,0),(9,0)]) (by kernel_rfl) ?_;have Mq:=M;replace B:=B.step M;obtain⟨v10,st10,ev10,cm,rfl,hmp,nfm,q10⟩:=RQ B.fresh;refine qA rfl K (Qf rfl ev10) fun _ K=>?_;replace B:=B.new (o:=XZ cm IT VP) q10 hmp nfm;have M:=B.mem;have Mp:=Mq;have Mq:=M;refine Yd 1 K M fun _ K=>?_;refine JC rfl K rfl (M.load (k:=0) rfl (Qc FM rfl)) (Mp.load (k:=0) rfl (Qc FM rfl)) (Ua rfl) rfl Q8 fun _ K=>?_;refine qA rfl K (V2 (a:=o) UE ((B.step M).at_ (k:=0) rfl) rfl rfl) fun _ K=>?_;rw[hsh]at K;refine Yd 2 K M fun _ K=>?_;refine GC rfl K M XU Q8 fun c5 _ _ K M=>?_;refine AI (k:=0) rfl K M rfl rfl rfl EH rfl rfl rfl fun _ M=>?_;have Mp:=Mq;have Mq:=M;refine Yd 2 K M fun _ K=>?_;refine Jf ?_;show W _ _ _ _ _ _ _;refine Z7 ?_;refine v7 (J:=fun T st9=>QE [(1,iZ m),(2,.ptr c2 0 0),(4,.bool false),(5,.ptr c5 0 0),(45,.bool (decide (20<n)))] T∧Qj st WA st9 [(c5,0,[iZ vn,.bool bn,iZ kn]),(c2,0,[.str o,iZ a,iZ b,iZ g,iZ n,kc])] [XZ cm IT VP]) ?_ (fun T st9 hJ=>?_)
 ·refine Qb 5 K M fun _ K=>?_;refine pg K rfl rfl (Q4 Ji rfl rfl hK.len) fun _ K=>?_;refine Qb 4 K M fun _ K=>?_;refine vr K rfl (fun _ e26 K=>?_) fun _ e26 K=>?_
  · refine Qb 3 K M fun _ K=>?_;refine ea K rfl rfl (QA rfl) rfl fun b30 _ e30 K=>?_;cases b30
    · replace e30:(bn)=true:=by simpa using e30
      refine Qb 10 K M fun _ K=>?_;refine Uv K rfl (fun _ e41 K=>?_) fun _ e41 K=>?_
      · refine Qb 4 K M fun _ K=>?_;exact⟨(K.sub rfl),(B.step M).less (.refl _)⟩
      exfalso;omega
    replace e30:(bn)=false:=by simpa using e30
    refine Qb 5 K M fun _ K=>?_;refine vr K rfl (fun _ e36 K=>?_) fun _ e36 K=>?_
    · refine Qb 4 K M fun _ K=>?_;refine Uv K rfl (fun _ e41 K=>?_) fun _ e41 K=>?_
      · refine Qb 4 K M fun _ K=>?_;exact⟨(K.sub rfl),(B.step M).less (.refl _)⟩
      exfalso;omega
    exfalso;first|omega|(have:=hn0 (by simpa using e30);omega)
  exfalso;omega
 obtain⟨K,B⟩:=hJ;have M:=B.mem;refine Uk K rfl (fun h45=>?_) fun h45=>?_
 ·exfalso;omega
 refine Qb 1 K M fun _ K=>?_;refine oQ K M (jP M.fresh (fun c m l hr=>(B.step M).ZH hf (hR c m l hr) id) hr0) rfl rfl fun _ _ K M=>?_;refine Qb 1 K M fun _ K=>?_;refine QV (fun mm1 T st9=> ∃(i:Nat),mm1=3-i∧QE [(1,iZ m),(2,.ptr c2 0 0),(5,.ptr c5 0 0),(47,.agg [iZ a,iZ b,iZ g]),(48,iN i)] T∧Qj st WA st9 [(c5,0,[iZ vn,.bool bn,iZ kn]),(c2,0,[.str o,iZ a,iZ b,iZ g,iZ n,kc])] [XZ cm IT VP]∧i≤3) (fun mm1 T st9 hI=>?_) _ _ _ ⟨0,rfl,(K.sub rfl),(B.step M).less (.refl _),Qe⟩;obtain⟨i,rfl,K,B,hi⟩:=hI;have M:=B.mem;refine Qb 1 K M fun _ K=>?_;refine Uk K rfl (fun h49=>?_) fun h49=>?_
 ·refine Qb 1 K M fun _ K=>?_;have hx51:=vf a b g (i:=i) Qe;refine p1 K (Sc (j:=i) rfl rfl Qe hx51) fun _ K=>?_;refine Qb 6 K M fun _ K=>?_;refine Uv K rfl (fun _ e57 K=>?_) fun _ e57 K=>?_
  · refine Qb 9 K M fun _ K=>?_;refine Uv K rfl (fun _ e66 K=>?_) fun _ e66 K=>?_
    · refine Qb 17 K M fun _ K=>?_;exact⟨_,Qe,i+1,rfl,(K.sub rfl),(B.step M).less (.refl _),Qe⟩
    refine Qb 2 K M fun _ K=>?_;refine pg K rfl rfl (Kl (b:=[101,120]) rfl rfl) fun _ K=>?_;refine Qb 1 K M fun _ K=>?_;refine vr K rfl (fun _ e71 K=>?_) fun _ e71 K=>?_
    · refine Qb 12 K M fun _ K=>?_;exact⟨_,Qe,i+1,rfl,(K.sub rfl),(B.step M).less (.refl _),Qe⟩
    refine Qb 2 K M fun _ K=>?_;refine uQ K rfl rfl (QA rfl) rfl (fun _ e74 K=>?_) fun _ e74 K=>?_
    · refine Qb 6 K M fun _ K=>?_;refine YU K rfl (fun h61=>?_) fun h61=>?_
      · have hb61:=h61;replace h61:=of_decide_eq_true h61;refine Qb 1 K M ?_
        exfalso
        first
         |omega
         |(have h:=(hvar i Qe).1 Qe;omega)
         |(have h:=(hvar i Qe).2 Qe (by assumption);omega)
         |(have h:=hex (by first|assumption|(apply Classical.byContradiction;assumption));omega)
      have hb61:=h61;replace h61:=of_decide_eq_false h61;refine Qb 2 K M fun _ K=>?_;exact⟨_,Qe,i+1,rfl,(K.sub rfl),(B.step M).less (.refl _),Qe⟩
    refine Qb 8 K M ?_
    exfalso
    first
     |omega
     |(have h:=(hvar i Qe).1 Qe;omega)
     |(have h:=(hvar i Qe).2 Qe (by assumption);omega)
     |(have h:=hex (by first|assumption|(apply Classical.byContradiction;assumption));omega)
  refine Qb 4 K M fun _ K=>?_;refine YU K rfl (fun h52=>?_) fun h52=>?_
  · have hb52:=h52
    replace h52: ¬((Ue a b g i)=0):=by first|exact of_decide_eq_false h52|exact yF h52|simpa using h52
    refine Qb 1 K M ?_
    exfalso
    first
     |omega
     |(have h:=(hvar i Qe).1 Qe;omega)
     |(have h:=(hvar i Qe).2 Qe (by assumption);omega)
     |(have h:=hex (by first|assumption|(apply Classical.byContradiction;assumption));omega)
  have hb52:=h52
  replace h52:((Ue a b g i)=0):=by first|exact of_decide_eq_true h52|exact yT h52|simpa using h52
  refine Qb 4 K M fun _ K=>?_;refine Uv K rfl (fun _ e66 K=>?_) fun _ e66 K=>?_
  · refine Qb 17 K M fun _ K=>?_;exact⟨_,Qe,i+1,rfl,(K.sub rfl),(B.step M).less (.refl _),Qe⟩
  refine Qb 2 K M fun _ K=>?_;refine pg K rfl rfl (Kl (b:=[101,120]) rfl rfl) fun _ K=>?_;refine Qb 1 K M fun _ K=>?_;refine vr K rfl (fun _ e71 K=>?_) fun _ e71 K=>?_
  · refine Qb 12 K M fun _ K=>?_;exact⟨_,Qe,i+1,rfl,(K.sub rfl),(B.step M).less (.refl _),Qe⟩
  refine Qb 2 K M fun _ K=>?_;refine uQ K rfl rfl (QA rfl) rfl (fun _ e74 K=>?_) fun _ e74 K=>?_
  · refine Qb 6 K M fun _ K=>?_;refine YU K rfl (fun h61=>?_) fun h61=>?_
    · have hb61:=h61;replace h61:=of_decide_eq_true h61;refine Qb 1 K M ?_
      exfalso
      first
       |omega
       |(have h:=(hvar i Qe).1 Qe;omega)
       |(have h:=(hvar i Qe).2 Qe (by assumption);omega)
       |(have h:=hex (by first|assumption|(apply Classical.byContradiction;assumption));omega)
    have hb61:=h61;replace h61:=of_decide_eq_false h61;refine Qb 2 K M fun _ K=>?_;exact⟨_,Qe,i+1,rfl,(K.sub rfl),(B.step M).less (.refl _),Qe⟩
  refine Qb 8 K M ?_
  exfalso
  first
   |omega
   |(have h:=(hvar i Qe).1 Qe;omega)
   |(have h:=(hvar i Qe).2 Qe (by assumption);omega)
   |(have h:=hex (by first|assumption|(apply Classical.byContradiction;assumption));omega)
 refine QO ?_;show W _ _ _ _ _ _ _;refine Qb 2 K M fun _ K=>?_;refine p1 K (Kl (b:=[101,120]) rfl rfl) fun _ K=>?_;refine vr K rfl (fun _ e84 K=>?_) fun _ e84 K=>?_
 ·refine Qb 4 K M fun _ K=>?_;refine uQ K rfl rfl (QA rfl) rfl (fun _ e89 K=>?_) fun _ e89 K=>?_
  · refine Qb 5 K M ?_
    exfalso
    first
     |omega
     |(have h:=(hvar i Qe).1 Qe;omega)
     |(have h:=(hvar i Qe).2 Qe (by assumption);omega)
     |(have h:=hex (by first|assumption|(apply Classical.byContradiction;assumption));omega)
  refine Qb 5 K M ?_;refine⟨congrArg AV.bool (decide_eq_true ?_),(B.step M).qt⟩;exact(hex (by first|assumption|(apply Classical.byContradiction;assumption))).2
 refine Qb 10 K M ?_;exact⟨rfl,(B.step M).qt⟩

theorem SC{R:Vl}{st:St}(hf:Qg st)(hR:ZL R st.h.get){kc:AV}{ls:List (List AV)}(hK:Ym R l kc ls){fo:FuncId}{fa fc:List AV}(hC: ∀(k:Cr) (cs:List AV),k∈l→Uy R k cs→ ∀(st1:St),Qt st st1→ ∃v st',QR fo (fa++([.agg cs]++fc)) st1 v st'∧v=.bool false∧Qt st1 st'): ∃v st',QR 243 [kc,(.fn fo fa fc)] st v st'∧v=iZ (-1)∧Qt st st':=by
 have hbn:=hK.EA;refine Jq Tryz.func243 Tryz.ntmps243 fun T K=>?_;have M:=Mem.start hf;refine Qb 2 K M fun _ K=>?_;refine p1 K (Q4 Ji rfl rfl hK.len) fun _ K=>?_;refine Qb 1 K M fun _ K=>?_;refine QV (fun mm1 T st9=> ∃(i:Nat),mm1=l.length-i∧QE [(0,kc),(1,(.fn fo fa fc)),(7,iZ (l.length:Nat)),(8,iN i)] T∧Mem st.h.get st.n [] st9 []∧i≤l.length) (fun mm1 T st9 hI=>?_) _ _ _ ⟨0,rfl,(K.sub rfl),M.less (.refl _),(Nat.zero_le _)⟩;obtain⟨i,rfl,K,M,hi⟩:=hI;refine Qb 1 K M fun _ K=>?_;refine Uk K rfl (fun h9=>?_) fun h9=>?_
 ·refine Qb 5 K M fun _ K=>?_;obtain⟨⟨o14,a14,b14,g14,n14,l14⟩,hi14⟩: ∃k,l[i]? =some k:=⟨_,List.getElem?_eq_getElem Qe⟩;have hm14:=Pe hi14;obtain⟨_,hc14,hn14⟩:=hK.get hi14;have hp14:=hn14;obtain⟨kc14,ls14,rfl,hK14⟩:=hp14.YN;refine vt (hK.r (M.ZL hR)) hc14 K JV QZ rfl rfl fun _ _ _ _ K=>?_;obtain⟨v16,st16,ev16,rfl,q16⟩:=hC _ _ hm14 hn14 _ M.qt;refine p1 K (YZ rfl rfl ev16) fun _ K=>?_;replace M:=M.quiet q16;refine Qb 3 K M fun _ K=>?_;exact⟨_,Qe,i+1,rfl,(K.sub rfl),M.less (.refl _),Qe⟩
 refine QO ?_;show W _ _ _ _ _ _ _;refine Qb 1 K M ?_;exact⟨rfl,M.qt⟩

theorem F6{R:Vl}{st:St}(hf:Qg st)(hR:ZL R st.h.get){kc:AV}{ls:List (List AV)}(hK:Ym R l kc ls){fo:FuncId}{fa fc:List AV}(hC: ∀(k:Cr) (cs:List AV),k∈l→Uy R k cs→ ∀(st1:St),Qt st st1→ ∃v st',QR fo (fa++([.agg cs]++fc)) st1 v st'∧v=.bool false∧Qt st1 st'): ∃v st',QR 199 [kc,(.fn fo fa fc)] st v st'∧v=.bool false∧Qt st st':=by
 refine Jq Tryz.func199 Tryz.ntmps199 fun T K=>?_;have M:=Mem.start hf;refine Qb 3 K M fun _ K=>?_;refine oQ K M (SC M.fresh (M.ZL hR) hK (fun k cs hm hk st1 q=>hC k cs hm hk st1 (M.qt.trans q))) rfl rfl fun _ _ K M=>?_;refine Qb 2 K M ?_;exact⟨rfl,M.qt⟩

theorem Rf{R:Vl}{st:St}(hf:Qg st)(hR:ZL R st.h.get){k:Cr}(hr:Uy R k cs){c3:Nat}{m:Int}(h3:Qw st.h.get c3 0 [iZ m])(ih: ∀(st1:St),Qt st st1→ZL R st1.h.get→ ∃v st',QR 153 [.agg cs,iZ m] st1 v st'∧v=.bool true∧Qt st1 st'): ∃v st',QR 200 [.agg cs,.ptr c3 0 0] st v st'∧v=.bool false∧Qt st st':=by
 have hp:=hr;obtain⟨o,a,b,g,n,l,kc,ls,rfl,rfl,hK⟩:=hp.zb;refine Jq Tryz.func200 Tryz.ntmps200 fun T K=>?_;have M:=Mem.start hf;refine Qb 0 K M fun _ K=>?_;refine J3 K M rfl (Qa rfl (Qa rfl (Qa rfl (Qa rfl (Qa rfl (Qa hK.cell Q9)))))) Q8 fun c2 _ _ K M=>?_;refine Qb 2 K M fun _ K=>?_;refine p1 K (Qh rfl (Qp (M.QY Qx h3.QF) (Qc Qq rfl))) fun _ K=>?_;refine oQ K M (ih _ M.qt (M.ZL hR)) rfl rfl fun _ _ K M=>?_;refine Qb 2 K M ?_;exact⟨rfl,M.qt⟩

theorem y8(x:Cr): ∀(m:Int) (R:Vl) (st:St) (cs:List AV),Qg st→ZL R st.h.get→Uy R x cs→J1 x m=true→ -100≤m→m≤100→ ∃v st',QR 153 [.agg cs,iZ m] st v st'∧v=.bool true∧Qt st st':=by
 refine Le (M:=fun x=> ∀(m:Int) (R:Vl) (st:St) (cs:List AV),Qg st→ZL R st.h.get→Uy R x cs→J1 x m=true→ -100≤m→m≤100→ ∃v st',QR 153 [.agg cs,iZ m] st v st'∧v=.bool true∧Qt st st') (fun o a b g n l ih=>?_) x;intro m R st cs hf hR hr hc hm1 hm2;have hr0:=hr;obtain⟨kc,ls,rfl,hK⟩:=hr.YN;have hln:=hK.ln;have hbn:=hK.EA;refine Jq Tryz.func153 Tryz.ntmps153 fun T K=>?_;have M:=Mem.start hf;refine Qb 0 K M fun _ K=>?_;refine J3 K M rfl (Qa rfl (Qa rfl (Qa rfl (Qa rfl (Qa rfl (Qa hK.cell Q9)))))) Q8 fun c2 _ _ K M=>?_;refine au 4 K M ?_;intro c3 _ _ K _ M;refine oQ K M (SN M.fresh (M.ZL hR) hr0 hc) rfl rfl fun _ _ K M=>?_;refine Qb 4 K M fun _ K=>?_;refine p1 K (JE (b:=[101,120]) rfl rfl) fun _ K=>?_;refine Qb 0 K M fun _ K=>?_;refine Uk K rfl (fun h11=>?_) fun h11=>?_
 ·have hcx:=hc;rw[J1,if_pos h11]at hcx;simp only[Bool.and_eq_true,decide_eq_true_eq]at hcx;obtain⟨_,_,_,_,hm6,_,_,hcl⟩:=hcx;refine au 5 K M ?_;intro _ _ K _ M;refine p1 K (Yn rfl rfl) fun _ K=>?_;have r3:=M.Uc (k:=0) rfl;obtain⟨v17,st17,ev17,rfl,q17⟩:=F6 (R:=R) M.fresh (M.ZL hR) hK (fo:=200) (fa:=[]) (fc:=[.ptr c3 0 0]) (fun k cs hm hk st1 q=>Rf (m:=(m+1)) q.fresh (fun c m l hr=>by obtain⟨ro,e,vs,ms,h2,h3⟩:=M.ZL hR c m l hr;exact⟨ro,e,vs,ms,by rw[q.J0 c (Nat.lt_of_not_le fun hle=>by rw[M.fresh c hle]at h2;cases h2)];exact h2,h3⟩) hk (r3.frame (q.J0 c3 (r3.lt M.fresh))) (fun st2 q2 hR2=>ih k hm _ R _ _ q2.fresh hR2 hk (NT hcl hm) Qe Qe));refine p1 K (Qf rfl ev17) fun _ K=>?_;replace M:=M.quiet q17;refine Qb 2 K M ?_;exact⟨rfl,M.qt⟩
 refine Qb 0 K M fun _ K=>?_;have hcx:=hc;rw[J1,if_neg h11]at hcx;simp only[Bool.and_eq_true,decide_eq_true_eq]at hcx;obtain⟨_,_,_,_,_,_,hcl⟩:=hcx;refine Qb 2 K M fun _ K=>?_;refine p1 K (Yn rfl rfl) fun _ K=>?_;have r3:=M.Uc (k:=0) rfl;obtain⟨v17,st17,ev17,rfl,q17⟩:=F6 (R:=R) M.fresh (M.ZL hR) hK (fo:=200) (fa:=[]) (fc:=[.ptr c3 0 0]) (fun k cs hm hk st1 q=>Rf (m:=m) q.fresh (fun c m l hr=>by obtain⟨ro,e,vs,ms,h2,h3⟩:=M.ZL hR c m l hr;exact⟨ro,e,vs,ms,by rw[q.J0 c (Nat.lt_of_not_le fun hle=>by rw[M.fresh c hle]at h2;cases h2)];exact h2,h3⟩) hk (r3.frame (q.J0 c3 (r3.lt M.fresh))) (fun st2 q2 hR2=>ih k hm _ R _ _ q2.fresh hR2 hk (NT hcl hm) Qe Qe));refine p1 K (Qf rfl ev17) fun _ K=>?_;replace M:=M.quiet q17;refine Qb 2 K M ?_;exact⟨rfl,M.qt⟩

theorem Rs{R:Vl}{st:St}(hf:Qg st)(hR:ZL R st.h.get){a:Int}(hr:Uy R (.mk o a b g n l) cs){m:Int}(h0:0≤m)(h6:m≤6)(hsz:VN (.mk o a b g n l)≤2000)(hc:J1 (.mk o a b g n l) m=true): ∃v st',QR 104 [.agg cs,iZ m] st v st'∧v=.bool true∧Qt st st':=by
 have hr0:=hr;obtain⟨kc,ls,rfl,hK⟩:=hr.YN;have hln:=hK.ln;have hbn:=hK.EA;refine Jq Tryz.func104 Tryz.ntmps104 fun T K=>?_;have M:=Mem.start hf;refine Qb 0 K M fun _ K=>?_;refine J3 K M rfl (Qa rfl (Qa rfl (Qa rfl (Qa rfl (Qa rfl (Qa hK.cell Q9)))))) Q8 fun c2 _ _ K M=>?_;refine Qb 3 K M fun _ K=>?_;refine Uv K rfl (fun _ e7 K=>?_) fun _ e7 K=>?_
 ·exfalso;omega
 refine Qb 3 K M fun _ K=>?_;refine Uv K rfl (fun _ e11 K=>?_) fun _ e11 K=>?_
 ·exfalso;omega
 refine Qb 1 K M fun _ K=>?_;obtain⟨v13,st13,ev13,rfl,q13⟩:=Tb M.fresh (M.ZL hR) hr0;refine pg K rfl rfl (Qf rfl ev13) fun _ K=>?_;replace M:=M.quiet q13;refine Qb 2 K M fun _ K=>?_;refine Uv K rfl (fun _ e16 K=>?_) fun _ e16 K=>?_
 ·exfalso;omega
 refine Qb 2 K M fun _ K=>?_;obtain⟨v19,st19,ev19,rfl,q19⟩:=y8 (.mk o a b g n l) m R _ _ M.fresh (M.ZL hR) hr0 hc Qe Qe;refine pg K rfl rfl (Qf rfl ev19) fun _ K=>?_;replace M:=M.quiet q19;refine Qb 2 K M ?_;exact⟨rfl,M.qt⟩
end Go.Proofs.YtildagdnomiahaaGreatDoor
