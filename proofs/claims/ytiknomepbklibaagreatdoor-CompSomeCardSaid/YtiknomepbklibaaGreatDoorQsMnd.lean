/-
  Core formulas that may be: the program says so.
-/
import Derived.Test.YtiknomepbklibaaGreatDoorQsR25
set_option maxHeartbeats 8000000
set_option maxRecDepth 100000
set_option linter.unnecessarySimpa false
set_option linter.unusedSectionVars false
set_option linter.unusedSimpArgs false
set_option linter.unusedVariables false
namespace Go.Proofs.YtiknomepbklibaaGreatDoor
open Go Go.RowKit
section
variable {b g n:Int} {cs:List AV} {l:List Cr} {o:List Nat}

abbrev LS(x:List Nat):AV:=.str x
theorem zV:Tryz.prog.underlying 166=some (.map 9 164):=by kernel_rfl
theorem zZ:Tryz.prog.underlying 168=some (.array 3 3):=by kernel_rfl
theorem vI:Wx Tryz.prog 168=some (3,3):=by kernel_rfl
abbrev sh(v:Int)(b:Bool)(k:Int):AV:=.agg [.int .i64 v,.bool b,.int .i64 k]
theorem Y9:VR Tryz.prog 166 LS (sh 0 false 0):=⟨9,164,.string,zV,W8,by kernel_rfl,fun a=>rfl,fun a i=>rfl,fun a b v n es i=>by
 have e:Yz Tryz.prog 9 .string (LS a) ((LS b,v,n)::es) i=Qj (GW a b) (some (some (i,v))) (Yz Tryz.prog 9 .string (LS a) es (i+1)):=by
  refine(VD .string (LS a) (LS b,v,n) es i).trans ?_;show ob (some (GW a b)) _=_;rw[Ql];rfl
 rw[e,Xd]
 exact⟨fun h=>by rw[decide_eq_true h];rfl,fun h=>by rw[decide_eq_false h];rfl⟩⟩
section
variable {α:Type} {key:α→AV} {P:Program} {G:Env} {N:Nat} {st0 st:St} {X0:Fp} {M:QM} {Os:List Ob} {T:Tr AV} {ops rest:List Oper} {K:List (Nat×AV)} {R:Tr AV→St→Prop} {t ty:TypeId} {pos:String} {af:Array Edge} {z:AV} {vl:List AV} {cm j:Nat} {L:List (α×AV)} {a:α} {m k x:Operand}
theorem xN(Tk:VR P t key z){n:Nat}{es:List (AV×AV×Nat)}(hc:st.h.get cm=some (.map es n))(he:O9 key es L)(hm:QT G K m=some (.mp cm))(hk:QT G K k=some (key a))(hx:QT G K x=some (.agg vl))(hn:Yp L a=none):
  U2 P G K (.insert t m k x) st (.tup []) (A4 st cm n es (key a) (.agg vl)):=.of fun T' hT c d ty pos af g=>by
 obtain⟨kt,et,d',u1,u2,u3,u4,u5,u6⟩:=Tk.rule;show(ob (Jq G T' m) fun m=>ob (Jq G T' k) fun k=>ob (Jq G T' x) fun x=>Z1 P t m k x st)=_;rw[hT.Jq hm,hT.Jq hk,hT.Jq hx,Ql,Ql,Ql];unfold Z1 A4;obtain⟨f1,f2⟩:=VR.find (P:=P) (t:=t) (z:=z) (et:=et) u5 u6 a L es 0 he;simp only[u1,u2,u4,QO,hc,Ql,f1 hn,Bool.or_true,Ua,U4,Jh,UI]
theorem YK(hK:QS K T)(B:Qk st0 X0 st M Os)(hj:Os[j]? =some (Wp cm key L))(Tk:VR P t key z)(hm:QT G K m=some (.mp cm))(hk:QT G K k=some (key a))(hx:QT G K x=some (.agg vl))(hn:Yp L a=none)
  (hr: ∀st',Qk st0 X0 st' M (Os.set j (Wp cm key (L++[(a,.agg vl)])))→WR P G N ops rest R T st'):WR P G N ops (⟨none,.insert t m k x,ty,pos,af,none⟩::rest) R T st:=by
 obtain⟨es,n,hc,he⟩:=B.at_ hj;exact SF hK (xN Tk hc he hm hk hx hn) (hr _ (B.BX hj hc he a (.agg vl)))
end
def Ej:List (List Nat×AV):=[([116,114,117,101],sh 0 false 0),([115,117,98],sh 2 false 0),([115,105,110,103],sh 1 false 0),([102,108,97,103],sh 1 false 0),([110,111,110,101],sh 1 false 0),([108,101,115,115],sh 2 false 0),([112,108,117,115],sh 2 true 0),([110,117,109],sh 1 true 0),([117,110,105,111,110],sh 3 false 0),([105,110,116,101,114],sh 3 false 0),([109,105,110,117,115],sh 3 false 0),([110,111,116],sh 0 false 1),([97,110,100],sh 0 false 2),([101,120],sh 1 false 1)]
def UW(a b g:Int)(i:Nat):Int:=if i=0 then a else if i=1 then b else g
theorem aB(a b g:Int){i:Nat}(h:i<3):([AV.int .i64 a,.int .i64 b,.int .i64 g]:List AV)[i]? =some (.int .i64 (UW a b g i)):=by
 match i,h with
 |0,_=>rfl
 |1,_=>rfl
 |2,_=>rfl
theorem M5{G:Env}{K:List (Nat×AV)}{st:St}{x i:Operand}{l:List AV}{j:Nat}{v:AV}(hx:QT G K x=some (.agg l))(hi:QT G K i=some (.int .i64 (j:Nat)))(hj:j<3)(hv:l[j]? =some v):U2 Tryz.prog G K (.index 168 x i) st v st:=.of fun T hT cc d ty pos af g=>by
 show ret (ob (Jq G T x) fun x=>ob (Jq G T i) fun i=>Hh Tryz.prog 168 x i) st=_;rw[hT.Jq hx,hT.Jq hi,Ql,Ql];unfold Hh;show ret (ob (Wx Tryz.prog 168) fun q=>ob (OE ((j:Nat):Int)) fun i=>QJ (Nat.ble (i+1) q.1) (Vi Tryz.prog q.2 l (i *Tryz.prog.cellsOf q.2))) st=_;rw[vI,Ql,show OE ((j:Nat):Int)=some j from rfl,Ql,Xe,Nat.mul_one,show Nat.ble (j+1) 3=true from Nat.ble_eq_true_of_le hj,QO];unfold Vi;rw[Qn];show ret (nth l j) st=_;rw[U6,hv];rfl
theorem Di{a m:Int}(h:QV (.mk o a b g n l) m=true): ∃vn bn kn,Yp Ej o=some (sh vn bn kn)∧0≤vn∧vn≤3∧((l.length:Nat):Int)=kn∧0≤n∧n<21∧(bn=false→n=0)∧(∀i:Nat,i<3→(vn≤i→UW a b g i=0)∧((i:Int)<vn→o≠[101,120]→0≤UW a b g i∧UW a b g i<m))∧(o=[101,120]→a=m∧m<6):=by
 have hi: ∀{P:Nat→Prop},P 0→P 1→P 2→ ∀i,i<3→P i:=fun h0 h1 h2 i hi=>by
  match i,hi with
  |0,_=>exact h0
  |1,_=>exact h1
  |2,_=>exact h2
 rw[QV]at h;simp only[Bool.and_eq_true,decide_eq_true_eq]at h;obtain⟨h1,h2,h3,h4⟩:=h
 by_cases e0:o=[116,114,117,101]
 ·subst e0;have h2:((l.length:Nat):Int)=0:=h2.trans Q8;simp[Uj,JL]at h3 h4;exact⟨0,false,0,by simp[Yp,Ej],by omega,by omega,h2,by omega,by omega,(fun hb=>by first|omega|cases hb),hi ⟨(fun h=>by simp only[UW];first|omega|simp_all),(fun h e=>by simp only[UW];first|omega|(simp at e;done)|simp_all)⟩ ⟨(fun h=>by simp only[UW];first|omega|simp_all),(fun h e=>by simp only[UW];first|omega|(simp at e;done)|simp_all)⟩ ⟨(fun h=>by simp only[UW];first|omega|simp_all),(fun h e=>by simp only[UW];first|omega|(simp at e;done)|simp_all)⟩,fun e=>by first|(simp at e;done)|omega|simp_all⟩
 by_cases e1:o=[115,117,98]
 ·subst e1;have h2:((l.length:Nat):Int)=0:=h2.trans Q8;simp[Uj,JL]at h3 h4;exact⟨2,false,0,by simp[Yp,Ej],by omega,by omega,h2,by omega,by omega,(fun hb=>by first|omega|cases hb),hi ⟨(fun h=>by simp only[UW];first|omega|simp_all),(fun h e=>by simp only[UW];first|omega|(simp at e;done)|simp_all)⟩ ⟨(fun h=>by simp only[UW];first|omega|simp_all),(fun h e=>by simp only[UW];first|omega|(simp at e;done)|simp_all)⟩ ⟨(fun h=>by simp only[UW];first|omega|simp_all),(fun h e=>by simp only[UW];first|omega|(simp at e;done)|simp_all)⟩,fun e=>by first|(simp at e;done)|omega|simp_all⟩
 by_cases e2:o=[115,105,110,103]
 ·subst e2;have h2:((l.length:Nat):Int)=0:=h2.trans Q8;simp[Uj,JL]at h3 h4;exact⟨1,false,0,by simp[Yp,Ej],by omega,by omega,h2,by omega,by omega,(fun hb=>by first|omega|cases hb),hi ⟨(fun h=>by simp only[UW];first|omega|simp_all),(fun h e=>by simp only[UW];first|omega|(simp at e;done)|simp_all)⟩ ⟨(fun h=>by simp only[UW];first|omega|simp_all),(fun h e=>by simp only[UW];first|omega|(simp at e;done)|simp_all)⟩ ⟨(fun h=>by simp only[UW];first|omega|simp_all),(fun h e=>by simp only[UW];first|omega|(simp at e;done)|simp_all)⟩,fun e=>by first|(simp at e;done)|omega|simp_all⟩
 by_cases e3:o=[102,108,97,103]
 ·subst e3;have h2:((l.length:Nat):Int)=0:=h2.trans Q8;simp[Uj,JL]at h3 h4;exact⟨1,false,0,by simp[Yp,Ej],by omega,by omega,h2,by omega,by omega,(fun hb=>by first|omega|cases hb),hi ⟨(fun h=>by simp only[UW];first|omega|simp_all),(fun h e=>by simp only[UW];first|omega|(simp at e;done)|simp_all)⟩ ⟨(fun h=>by simp only[UW];first|omega|simp_all),(fun h e=>by simp only[UW];first|omega|(simp at e;done)|simp_all)⟩ ⟨(fun h=>by simp only[UW];first|omega|simp_all),(fun h e=>by simp only[UW];first|omega|(simp at e;done)|simp_all)⟩,fun e=>by first|(simp at e;done)|omega|simp_all⟩
 by_cases e4:o=[110,111,110,101]
 ·subst e4;have h2:((l.length:Nat):Int)=0:=h2.trans Q8;simp[Uj,JL]at h3 h4;exact⟨1,false,0,by simp[Yp,Ej],by omega,by omega,h2,by omega,by omega,(fun hb=>by first|omega|cases hb),hi ⟨(fun h=>by simp only[UW];first|omega|simp_all),(fun h e=>by simp only[UW];first|omega|(simp at e;done)|simp_all)⟩ ⟨(fun h=>by simp only[UW];first|omega|simp_all),(fun h e=>by simp only[UW];first|omega|(simp at e;done)|simp_all)⟩ ⟨(fun h=>by simp only[UW];first|omega|simp_all),(fun h e=>by simp only[UW];first|omega|(simp at e;done)|simp_all)⟩,fun e=>by first|(simp at e;done)|omega|simp_all⟩
 by_cases e5:o=[108,101,115,115]
 ·subst e5;have h2:((l.length:Nat):Int)=0:=h2.trans Q8;simp[Uj,JL]at h3 h4;exact⟨2,false,0,by simp[Yp,Ej],by omega,by omega,h2,by omega,by omega,(fun hb=>by first|omega|cases hb),hi ⟨(fun h=>by simp only[UW];first|omega|simp_all),(fun h e=>by simp only[UW];first|omega|(simp at e;done)|simp_all)⟩ ⟨(fun h=>by simp only[UW];first|omega|simp_all),(fun h e=>by simp only[UW];first|omega|(simp at e;done)|simp_all)⟩ ⟨(fun h=>by simp only[UW];first|omega|simp_all),(fun h e=>by simp only[UW];first|omega|(simp at e;done)|simp_all)⟩,fun e=>by first|(simp at e;done)|omega|simp_all⟩
 by_cases e6:o=[112,108,117,115]
 ·subst e6;have h2:((l.length:Nat):Int)=0:=h2.trans Q8;simp[Uj,JL]at h3 h4;exact⟨2,true,0,by simp[Yp,Ej],by omega,by omega,h2,by omega,by omega,(fun hb=>by first|omega|cases hb),hi ⟨(fun h=>by simp only[UW];first|omega|simp_all),(fun h e=>by simp only[UW];first|omega|(simp at e;done)|simp_all)⟩ ⟨(fun h=>by simp only[UW];first|omega|simp_all),(fun h e=>by simp only[UW];first|omega|(simp at e;done)|simp_all)⟩ ⟨(fun h=>by simp only[UW];first|omega|simp_all),(fun h e=>by simp only[UW];first|omega|(simp at e;done)|simp_all)⟩,fun e=>by first|(simp at e;done)|omega|simp_all⟩
 by_cases e7:o=[110,117,109]
 ·subst e7;have h2:((l.length:Nat):Int)=0:=h2.trans Q8;simp[Uj,JL]at h3 h4;exact⟨1,true,0,by simp[Yp,Ej],by omega,by omega,h2,by omega,by omega,(fun hb=>by first|omega|cases hb),hi ⟨(fun h=>by simp only[UW];first|omega|simp_all),(fun h e=>by simp only[UW];first|omega|(simp at e;done)|simp_all)⟩ ⟨(fun h=>by simp only[UW];first|omega|simp_all),(fun h e=>by simp only[UW];first|omega|(simp at e;done)|simp_all)⟩ ⟨(fun h=>by simp only[UW];first|omega|simp_all),(fun h e=>by simp only[UW];first|omega|(simp at e;done)|simp_all)⟩,fun e=>by first|(simp at e;done)|omega|simp_all⟩
 by_cases e8:o=[117,110,105,111,110]
 ·subst e8;have h2:((l.length:Nat):Int)=0:=h2.trans Q8;simp[Uj,JL]at h3 h4;exact⟨3,false,0,by simp[Yp,Ej],by omega,by omega,h2,by omega,by omega,(fun hb=>by first|omega|cases hb),hi ⟨(fun h=>by simp only[UW];first|omega|simp_all),(fun h e=>by simp only[UW];first|omega|(simp at e;done)|simp_all)⟩ ⟨(fun h=>by simp only[UW];first|omega|simp_all),(fun h e=>by simp only[UW];first|omega|(simp at e;done)|simp_all)⟩ ⟨(fun h=>by simp only[UW];first|omega|simp_all),(fun h e=>by simp only[UW];first|omega|(simp at e;done)|simp_all)⟩,fun e=>by first|(simp at e;done)|omega|simp_all⟩
 by_cases e9:o=[105,110,116,101,114]
 ·subst e9;have h2:((l.length:Nat):Int)=0:=h2.trans Q8;simp[Uj,JL]at h3 h4;exact⟨3,false,0,by simp[Yp,Ej],by omega,by omega,h2,by omega,by omega,(fun hb=>by first|omega|cases hb),hi ⟨(fun h=>by simp only[UW];first|omega|simp_all),(fun h e=>by simp only[UW];first|omega|(simp at e;done)|simp_all)⟩ ⟨(fun h=>by simp only[UW];first|omega|simp_all),(fun h e=>by simp only[UW];first|omega|(simp at e;done)|simp_all)⟩ ⟨(fun h=>by simp only[UW];first|omega|simp_all),(fun h e=>by simp only[UW];first|omega|(simp at e;done)|simp_all)⟩,fun e=>by first|(simp at e;done)|omega|simp_all⟩
 by_cases e10:o=[109,105,110,117,115]
 ·subst e10;have h2:((l.length:Nat):Int)=0:=h2.trans Q8;simp[Uj,JL]at h3 h4;exact⟨3,false,0,by simp[Yp,Ej],by omega,by omega,h2,by omega,by omega,(fun hb=>by first|omega|cases hb),hi ⟨(fun h=>by simp only[UW];first|omega|simp_all),(fun h e=>by simp only[UW];first|omega|(simp at e;done)|simp_all)⟩ ⟨(fun h=>by simp only[UW];first|omega|simp_all),(fun h e=>by simp only[UW];first|omega|(simp at e;done)|simp_all)⟩ ⟨(fun h=>by simp only[UW];first|omega|simp_all),(fun h e=>by simp only[UW];first|omega|(simp at e;done)|simp_all)⟩,fun e=>by first|(simp at e;done)|omega|simp_all⟩
 by_cases e11:o=[110,111,116]
 ·subst e11;have h2:((l.length:Nat):Int)=1:=h2.trans Q8;simp[Uj,JL]at h3 h4;exact⟨0,false,1,by simp[Yp,Ej],by omega,by omega,h2,by omega,by omega,(fun hb=>by first|omega|cases hb),hi ⟨(fun h=>by simp only[UW];first|omega|simp_all),(fun h e=>by simp only[UW];first|omega|(simp at e;done)|simp_all)⟩ ⟨(fun h=>by simp only[UW];first|omega|simp_all),(fun h e=>by simp only[UW];first|omega|(simp at e;done)|simp_all)⟩ ⟨(fun h=>by simp only[UW];first|omega|simp_all),(fun h e=>by simp only[UW];first|omega|(simp at e;done)|simp_all)⟩,fun e=>by first|(simp at e;done)|omega|simp_all⟩
 by_cases e12:o=[97,110,100]
 ·subst e12;have h2:((l.length:Nat):Int)=2:=h2.trans Q8;simp[Uj,JL]at h3 h4;exact⟨0,false,2,by simp[Yp,Ej],by omega,by omega,h2,by omega,by omega,(fun hb=>by first|omega|cases hb),hi ⟨(fun h=>by simp only[UW];first|omega|simp_all),(fun h e=>by simp only[UW];first|omega|(simp at e;done)|simp_all)⟩ ⟨(fun h=>by simp only[UW];first|omega|simp_all),(fun h e=>by simp only[UW];first|omega|(simp at e;done)|simp_all)⟩ ⟨(fun h=>by simp only[UW];first|omega|simp_all),(fun h e=>by simp only[UW];first|omega|(simp at e;done)|simp_all)⟩,fun e=>by first|(simp at e;done)|omega|simp_all⟩
 by_cases e13:o=[101,120]
 ·subst e13;have h2:((l.length:Nat):Int)=1:=h2.trans Q8;simp[Uj,JL]at h3 h4;exact⟨1,false,1,by simp[Yp,Ej],by omega,by omega,h2,by omega,by omega,(fun hb=>by first|omega|cases hb),hi ⟨(fun h=>by simp only[UW];first|omega|simp_all),(fun h e=>by simp only[UW];first|omega|(simp at e;done)|simp_all)⟩ ⟨(fun h=>by simp only[UW];first|omega|simp_all),(fun h e=>by simp only[UW];first|omega|(simp at e;done)|simp_all)⟩ ⟨(fun h=>by simp only[UW];first|omega|simp_all),(fun h e=>by simp only[UW];first|omega|(simp at e;done)|simp_all)⟩,fun e=>by first|(simp at e;done)|omega|simp_all⟩
 simp[Uj,Ne.symm, *]at h1

theorem Mh{st:St}(hf:Qi st): ∃v st',Jf 133 [] st v st'∧ ∃cm,v=.mp cm∧(Wp cm LS Ej).H st'.h.get∧ZP st st' (fun c=>c=cm)∧Qt st st':=by
 have B:=Qk.start hf;refine J7 Tryz.func133 Tryz.ntmps133 fun T K=>?_;have M:=B.mem;refine Qb 1 K M fun _ K=>?_;replace B:=B.step M;refine W4 LS K B rfl fun c1 _ _ K B=>?_;have M:=B.mem;refine Qb 1 K M fun _ K=>?_;replace B:=B.step M;refine YK (j:=0) (a:=[116,114,117,101]) K B rfl Y9 rfl rfl rfl (by simp[Yp]) fun _ B=>?_;have M:=B.mem;refine Qb 1 K M fun _ K=>?_;replace B:=B.step M;refine YK (j:=0) (a:=[115,117,98]) K B rfl Y9 rfl rfl rfl (by simp[Yp]) fun _ B=>?_;have M:=B.mem;refine Qb 1 K M fun _ K=>?_;replace B:=B.step M;refine YK (j:=0) (a:=[115,105,110,103]) K B rfl Y9 rfl rfl rfl (by simp[Yp]) fun _ B=>?_;have M:=B.mem;refine Qb 1 K M fun _ K=>?_;replace B:=B.step M;refine YK (j:=0) (a:=[102,108,97,103]) K B rfl Y9 rfl rfl rfl (by simp[Yp]) fun _ B=>?_;have M:=B.mem;refine Qb 1 K M fun _ K=>?_;replace B:=B.step M;refine YK (j:=0) (a:=[110,111,110,101]) K B rfl Y9 rfl rfl rfl (by simp[Yp]) fun _ B=>?_;have M:=B.mem;refine Qb 1 K M fun _ K=>?_;replace B:=B.step M;refine YK (j:=0) (a:=[108,101,115,115]) K B rfl Y9 rfl rfl rfl (by simp[Yp]) fun _ B=>?_;have M:=B.mem;refine Qb 1 K M fun _ K=>?_;replace B:=B.step M;refine YK (j:=0) (a:=[112,108,117,115]) K B rfl Y9 rfl rfl rfl (by simp[Yp]) fun _ B=>?_;have M:=B.mem;refine Qb 1 K M fun _ K=>?_;replace B:=B.step M;refine YK (j:=0) (a:=[110,117,109]) K B rfl Y9 rfl rfl rfl (by simp[Yp]) fun _ B=>?_;have M:=B.mem;refine Qb 1 K M fun _ K=>?_;replace B:=B.step M;refine YK (j:=0) (a:=[117,110,105,111,110]) K B rfl Y9 rfl rfl rfl (by simp[Yp]) fun _ B=>?_;have M:=B.mem;refine Qb 1 K M fun _ K=>?_;replace B:=B.step M;refine YK (j:=0) (a:=[105,110,116,101,114]) K B rfl Y9 rfl rfl rfl (by simp[Yp]) fun _ B=>?_;have M:=B.mem;refine Qb 1 K M fun _ K=>?_;replace B:=B.step M;refine YK (j:=0) (a:=[109,105,110,117,115]) K B rfl Y9 rfl rfl rfl (by simp[Yp]) fun _ B=>?_;have M:=B.mem;refine Qb 1 K M fun _ K=>?_;replace B:=B.step M;refine YK (j:=0) (a:=[110,111,116]) K B rfl Y9 rfl rfl rfl (by simp[Yp]) fun _ B=>?_;have M:=B.mem;refine Qb 1 K M fun _ K=>?_;replace B:=B.step M;refine YK (j:=0) (a:=[97,110,100]) K B rfl Y9 rfl rfl rfl (by simp[Yp]) fun _ B=>?_;have M:=B.mem;refine Qb 1 K M fun _ K=>?_;replace B:=B.step M;refine YK (j:=0) (a:=[101,120]) K B rfl Y9 rfl rfl rfl (by simp[Yp]) fun _ B=>?_;have M:=B.mem;refine Qb 2 K M ?_;exact⟨c1,rfl,(B.step M).at_ (k:=0) rfl,(B.step M).uA (k:=0) rfl,(B.step M).qt⟩

theorem zT{R:VN}{st:St}(hf:Qi st)(hR:Yy R st.h.get){a:Int}(hr:YI R (.mk o a b g n l) cs): ∃v st',Jf 134 [.agg cs] st v st'∧v=.agg [iZ a,iZ b,iZ g]∧Qt st st':=by
 have hr0:=hr;obtain⟨kc,ls,rfl,hK⟩:=hr.U0;have hln:=hK.ln;have hbn:=hK.W3;refine J7 Tryz.func134 Tryz.ntmps134 fun T K=>?_;have M:=Mem.start hf;refine Qb 0 K M fun _ K=>?_;refine Jv K M rfl (Qa rfl (Qa rfl (Qa rfl (Qa rfl (Qa rfl (Qa hK.cell Qz)))))) Q8 fun c1 _ _ K M=>?_;refine au 7 K M ?_;intro c2 _ _ K _ M;refine p1 K (ZK zZ IB Xe Gr rfl rfl) fun _ K=>?_;refine au 1 K M ?_;intro _ _ K _ M;refine Qb 0 K M ?_;exact⟨rfl,M.qt⟩

theorem qj{R:VN}{st:St}(hf:Qi st)(hR:Yy R st.h.get){a:Int}(hr:YI R (.mk o a b g n l) cs){m:Int}(hc:QV (.mk o a b g n l) m=true): ∃v st',Jf 104 [.agg cs,iZ m] st v st'∧v=.bool true∧Qt st st':=by
 have hr0:=hr;obtain⟨kc,ls,rfl,hK⟩:=hr.U0;have hln:=hK.ln;have hbn:=hK.W3;obtain⟨vn,bn,kn,hsh,hv0,hv3,hk,hn1,hn2,hn0,hvar,hex⟩:=Di hc;have B:=Qk.start hf;refine J7 Tryz.func104 Tryz.ntmps104 fun T K=>?_;have M:=B.mem;refine Qb 0 K M fun _ K=>?_;refine Jv K M rfl (Qa rfl (Qa rfl (Qa rfl (Qa rfl (Qa rfl (Qa hK.cell Qz)))))) Q8 fun c2 _ _ K M=>?_;refine Qb 1 K M fun _ K=>?_;refine QA (l:=[(0,0),(1,0),(2,1),(3,0),(4,0),(5,0),(7,0),(8,0),(6,0),(9,0)]) (by kernel_rfl) ?_;have Mq:=M;replace B:=B.step M;obtain⟨v10,st10,ev10,cm,rfl,hmp,nfm,q10⟩:=Mh B.fresh;refine qA rfl K (Qf rfl ev10) fun _ K=>?_;replace B:=B.new (o:=Wp cm LS Ej) q10 hmp nfm;have M:=B.mem;have Mp:=Mq;have Mq:=M;refine Jo 1 K M fun _ K=>?_;refine Ju rfl K rfl (M.load (k:=0) rfl (Qd ID rfl)) (Mp.load (k:=0) rfl (Qd ID rfl)) (JI rfl) rfl Q8 fun _ K=>?_;refine qA rfl K (WI (a:=o) Y9 ((B.step M).at_ (k:=0) rfl) rfl rfl) fun _ K=>?_;rw[hsh]at K;refine Jo 2 K M fun _ K=>?_;refine W6 rfl K M Wi Q8 fun c5 _ _ K M=>?_;refine V2 (k:=0) rfl K M rfl rfl rfl FJ rfl rfl rfl fun _ M=>?_;have Mp:=Mq;have Mq:=M;refine Jo 2 K M fun _ K=>?_;refine QF ?_;show W _ _ _ _ _ _ _;refine Jy ?_;refine CM (J:=fun T st9=>QS [(1,iZ m),(2,.ptr c2 0 0),(4,.bool false),(5,.ptr c5 0 0),(45,.bool (decide (20<n)))] T∧Qk st ZQ st9 [(c5,0,[iZ vn,.bool bn,iZ kn]),(c2,0,[.str o,iZ a,iZ b,iZ g,iZ n,kc])] [Wp cm LS Ej]) ?_ (fun T st9 hJ=>?_)
 ·refine Qb 5 K M fun _ K=>?_;refine pg K rfl rfl (Q5 JN rfl rfl hK.len) fun _ K=>?_;refine Qb 4 K M fun _ K=>?_;refine qR K rfl (fun _ e26 K=>?_) fun _ e26 K=>?_
  · refine Qb 3 K M fun _ K=>?_;refine iq K rfl rfl (Qy rfl) rfl fun b30 _ e30 K=>?_;cases b30
    · replace e30:(bn)=true:=by simpa using e30
      refine Qb 10 K M fun _ K=>?_;refine Ug K rfl (fun _ e41 K=>?_) fun _ e41 K=>?_
      · refine Qb 4 K M fun _ K=>?_;exact⟨(K.sub rfl),(B.step M).less (.refl _)⟩
      exfalso;omega
    replace e30:(bn)=false:=by simpa using e30
    refine Qb 5 K M fun _ K=>?_;refine qR K rfl (fun _ e36 K=>?_) fun _ e36 K=>?_
    · refine Qb 4 K M fun _ K=>?_;refine Ug K rfl (fun _ e41 K=>?_) fun _ e41 K=>?_
      · refine Qb 4 K M fun _ K=>?_;exact⟨(K.sub rfl),(B.step M).less (.refl _)⟩
      exfalso;omega
    exfalso;first|omega|(have:=hn0 (by simpa using e30);omega)
  exfalso;omega
 obtain⟨K,B⟩:=hJ;have M:=B.mem;refine Jt K rfl (fun h45=>?_) fun h45=>?_
 ·exfalso;omega
 refine Qb 1 K M fun _ K=>?_;refine oQ K M (zT M.fresh (fun c m l hr=>(B.step M).U5 hf (hR c m l hr) id) hr0) rfl rfl fun _ _ K M=>?_;refine Qb 1 K M fun _ K=>?_;refine QX (fun mm1 T st9=> ∃(i:Nat),mm1=3-i∧QS [(1,iZ m),(2,.ptr c2 0 0),(5,.ptr c5 0 0),(47,.agg [iZ a,iZ b,iZ g]),(48,iN i)] T∧Qk st ZQ st9 [(c5,0,[iZ vn,.bool bn,iZ kn]),(c2,0,[.str o,iZ a,iZ b,iZ g,iZ n,kc])] [Wp cm LS Ej]∧i≤3) (fun mm1 T st9 hI=>?_) _ _ _ ⟨0,rfl,(K.sub rfl),(B.step M).less (.refl _),Qc⟩;obtain⟨i,rfl,K,B,hi⟩:=hI;have M:=B.mem;refine Qb 1 K M fun _ K=>?_;refine Jt K rfl (fun h49=>?_) fun h49=>?_
 ·refine Qb 1 K M fun _ K=>?_;have hx51:=aB a b g (i:=i) Qc;refine p1 K (M5 (j:=i) rfl rfl Qc hx51) fun _ K=>?_;refine Qb 6 K M fun _ K=>?_;refine Ug K rfl (fun _ e57 K=>?_) fun _ e57 K=>?_
  · refine Qb 9 K M fun _ K=>?_;refine Ug K rfl (fun _ e66 K=>?_) fun _ e66 K=>?_
    · refine Qb 17 K M fun _ K=>?_;exact⟨_,Qc,i+1,rfl,(K.sub rfl),(B.step M).less (.refl _),Qc⟩
    refine Qb 2 K M fun _ K=>?_;refine pg K rfl rfl (Hd (b:=[101,120]) rfl rfl) fun _ K=>?_;refine Qb 1 K M fun _ K=>?_;refine qR K rfl (fun _ e71 K=>?_) fun _ e71 K=>?_
    · refine Qb 12 K M fun _ K=>?_;exact⟨_,Qc,i+1,rfl,(K.sub rfl),(B.step M).less (.refl _),Qc⟩
    refine Qb 2 K M fun _ K=>?_;refine N2 K rfl rfl (Qy rfl) rfl (fun _ e74 K=>?_) fun _ e74 K=>?_
    · refine Qb 6 K M fun _ K=>?_;refine Uq K rfl (fun h61=>?_) fun h61=>?_
      · have hb61:=h61;replace h61:=of_decide_eq_true h61;refine Qb 1 K M ?_
        exfalso
        first
         |omega
         |(have h:=(hvar i Qc).1 Qc;omega)
         |(have h:=(hvar i Qc).2 Qc (by assumption);omega)
         |(have h:=hex (by first|assumption|(apply Classical.byContradiction;assumption));omega)
      have hb61:=h61;replace h61:=of_decide_eq_false h61;refine Qb 2 K M fun _ K=>?_;exact⟨_,Qc,i+1,rfl,(K.sub rfl),(B.step M).less (.refl _),Qc⟩
    refine Qb 8 K M ?_
    exfalso
    first
     |omega
     |(have h:=(hvar i Qc).1 Qc;omega)
     |(have h:=(hvar i Qc).2 Qc (by assumption);omega)
     |(have h:=hex (by first|assumption|(apply Classical.byContradiction;assumption));omega)
  refine Qb 4 K M fun _ K=>?_;refine Uq K rfl (fun h52=>?_) fun h52=>?_
  · have hb52:=h52
    replace h52: ¬((UW a b g i)=0):=by first|exact of_decide_eq_false h52|exact yF h52|simpa using h52
    refine Qb 1 K M ?_
    exfalso
    first
     |omega
     |(have h:=(hvar i Qc).1 Qc;omega)
     |(have h:=(hvar i Qc).2 Qc (by assumption);omega)
     |(have h:=hex (by first|assumption|(apply Classical.byContradiction;assumption));omega)
  have hb52:=h52
  replace h52:((UW a b g i)=0):=by first|exact of_decide_eq_true h52|exact yT h52|simpa using h52
  refine Qb 4 K M fun _ K=>?_;refine Ug K rfl (fun _ e66 K=>?_) fun _ e66 K=>?_
  · refine Qb 17 K M fun _ K=>?_;exact⟨_,Qc,i+1,rfl,(K.sub rfl),(B.step M).less (.refl _),Qc⟩
  refine Qb 2 K M fun _ K=>?_;refine pg K rfl rfl (Hd (b:=[101,120]) rfl rfl) fun _ K=>?_;refine Qb 1 K M fun _ K=>?_;refine qR K rfl (fun _ e71 K=>?_) fun _ e71 K=>?_
  · refine Qb 12 K M fun _ K=>?_;exact⟨_,Qc,i+1,rfl,(K.sub rfl),(B.step M).less (.refl _),Qc⟩
  refine Qb 2 K M fun _ K=>?_;refine N2 K rfl rfl (Qy rfl) rfl (fun _ e74 K=>?_) fun _ e74 K=>?_
  · refine Qb 6 K M fun _ K=>?_;refine Uq K rfl (fun h61=>?_) fun h61=>?_
    · have hb61:=h61;replace h61:=of_decide_eq_true h61;refine Qb 1 K M ?_
      exfalso
      first
       |omega
       |(have h:=(hvar i Qc).1 Qc;omega)
       |(have h:=(hvar i Qc).2 Qc (by assumption);omega)
       |(have h:=hex (by first|assumption|(apply Classical.byContradiction;assumption));omega)
    have hb61:=h61;replace h61:=of_decide_eq_false h61;refine Qb 2 K M fun _ K=>?_;exact⟨_,Qc,i+1,rfl,(K.sub rfl),(B.step M).less (.refl _),Qc⟩
  refine Qb 8 K M ?_
  exfalso
  first
   |omega
   |(have h:=(hvar i Qc).1 Qc;omega)
   |(have h:=(hvar i Qc).2 Qc (by assumption);omega)
   |(have h:=hex (by first|assumption|(apply Classical.byContradiction;assumption));omega)
 refine QK ?_;show W _ _ _ _ _ _ _;refine Qb 2 K M fun _ K=>?_;refine p1 K (Hd (b:=[101,120]) rfl rfl) fun _ K=>?_;refine qR K rfl (fun _ e84 K=>?_) fun _ e84 K=>?_
 ·refine Qb 4 K M fun _ K=>?_;refine N2 K rfl rfl (Qy rfl) rfl (fun _ e89 K=>?_) fun _ e89 K=>?_
  · refine Qb 5 K M ?_
    exfalso
    first
     |omega
     |(have h:=(hvar i Qc).1 Qc;omega)
     |(have h:=(hvar i Qc).2 Qc (by assumption);omega)
     |(have h:=hex (by first|assumption|(apply Classical.byContradiction;assumption));omega)
  refine Qb 5 K M ?_;refine⟨congrArg AV.bool (decide_eq_true ?_),(B.step M).qt⟩;exact(hex (by first|assumption|(apply Classical.byContradiction;assumption))).2
 refine Qb 10 K M ?_;exact⟨rfl,(B.step M).qt⟩

theorem MZ{R:VN}{st:St}(hf:Qi st)(hR:Yy R st.h.get){kc:AV}{ls:List (List AV)}(hK:YF R l kc ls){fo:FuncId}{fa fc:List AV}(hC: ∀(k:Cr) (cs:List AV),k∈l→YI R k cs→ ∀(st1:St),Qt st st1→ ∃v st',Jf fo (fa++([.agg cs]++fc)) st1 v st'∧v=.bool false∧Qt st1 st'): ∃v st',Jf 135 [kc,(.fn fo fa fc)] st v st'∧v=iZ (-1)∧Qt st st':=by
 have hbn:=hK.W3;refine J7 Tryz.func135 Tryz.ntmps135 fun T K=>?_;have M:=Mem.start hf;refine Qb 2 K M fun _ K=>?_;refine p1 K (Q5 JN rfl rfl hK.len) fun _ K=>?_;refine Qb 1 K M fun _ K=>?_;refine QX (fun mm1 T st9=> ∃(i:Nat),mm1=l.length-i∧QS [(0,kc),(1,(.fn fo fa fc)),(7,iZ (l.length:Nat)),(8,iN i)] T∧Mem st.h.get st.n [] st9 []∧i≤l.length) (fun mm1 T st9 hI=>?_) _ _ _ ⟨0,rfl,(K.sub rfl),M.less (.refl _),(Nat.zero_le _)⟩;obtain⟨i,rfl,K,M,hi⟩:=hI;refine Qb 1 K M fun _ K=>?_;refine Jt K rfl (fun h9=>?_) fun h9=>?_
 ·refine Qb 5 K M fun _ K=>?_;obtain⟨⟨o14,a14,b14,g14,n14,l14⟩,hi14⟩: ∃k,l[i]? =some k:=⟨_,List.getElem?_eq_getElem Qc⟩;have hm14:=VI hi14;obtain⟨_,hc14,hn14⟩:=hK.get hi14;have hp14:=hn14;obtain⟨kc14,ls14,rfl,hK14⟩:=hp14.U0;refine Te (hK.r (M.Yy hR)) hc14 K Ji QW rfl rfl fun _ _ _ _ K=>?_;obtain⟨v16,st16,ev16,rfl,q16⟩:=hC _ _ hm14 hn14 _ M.qt;refine p1 K (ZZ rfl rfl ev16) fun _ K=>?_;replace M:=M.quiet q16;refine Qb 3 K M fun _ K=>?_;exact⟨_,Qc,i+1,rfl,(K.sub rfl),M.less (.refl _),Qc⟩
 refine QK ?_;show W _ _ _ _ _ _ _;refine Qb 1 K M ?_;exact⟨rfl,M.qt⟩

theorem Iy{R:VN}{st:St}(hf:Qi st)(hR:Yy R st.h.get){kc:AV}{ls:List (List AV)}(hK:YF R l kc ls){fo:FuncId}{fa fc:List AV}(hC: ∀(k:Cr) (cs:List AV),k∈l→YI R k cs→ ∀(st1:St),Qt st st1→ ∃v st',Jf fo (fa++([.agg cs]++fc)) st1 v st'∧v=.bool false∧Qt st1 st'): ∃v st',Jf 105 [kc,(.fn fo fa fc)] st v st'∧v=.bool false∧Qt st st':=by
 refine J7 Tryz.func105 Tryz.ntmps105 fun T K=>?_;have M:=Mem.start hf;refine Qb 3 K M fun _ K=>?_;refine oQ K M (MZ M.fresh (M.Yy hR) hK (fun k cs hm hk st1 q=>hC k cs hm hk st1 (M.qt.trans q))) rfl rfl fun _ _ K M=>?_;refine Qb 2 K M ?_;exact⟨rfl,M.qt⟩

theorem Tz{R:VN}{st:St}(hf:Qi st)(hR:Yy R st.h.get){k:Cr}(hr:YI R k cs){c3:Nat}{m:Int}(h3:Qx st.h.get c3 0 [iZ m])(ih: ∀(st1:St),Qt st st1→Yy R st1.h.get→ ∃v st',Jf 78 [.agg cs,iZ m] st1 v st'∧v=.bool true∧Qt st1 st'): ∃v st',Jf 106 [.agg cs,.ptr c3 0 0] st v st'∧v=.bool false∧Qt st st':=by
 have hp:=hr;obtain⟨o,a,b,g,n,l,kc,ls,rfl,rfl,hK⟩:=hp.zH;refine J7 Tryz.func106 Tryz.ntmps106 fun T K=>?_;have M:=Mem.start hf;refine Qb 0 K M fun _ K=>?_;refine Jv K M rfl (Qa rfl (Qa rfl (Qa rfl (Qa rfl (Qa rfl (Qa hK.cell Qz)))))) Q8 fun c2 _ _ K M=>?_;refine Qb 2 K M fun _ K=>?_;refine p1 K (Qg rfl (Qw (M.JF Q4 h3.Jb) (Qd Qn rfl))) fun _ K=>?_;refine oQ K M (ih _ M.qt (M.Yy hR)) rfl rfl fun _ _ K M=>?_;refine Qb 2 K M ?_;exact⟨rfl,M.qt⟩

theorem vB(x:Cr): ∀(m:Int) (R:VN) (st:St) (cs:List AV),Qi st→Yy R st.h.get→YI R x cs→QV x m=true→ -100≤m→m≤100→ ∃v st',Jf 78 [.agg cs,iZ m] st v st'∧v=.bool true∧Qt st st':=by
 refine E9 (M:=fun x=> ∀(m:Int) (R:VN) (st:St) (cs:List AV),Qi st→Yy R st.h.get→YI R x cs→QV x m=true→ -100≤m→m≤100→ ∃v st',Jf 78 [.agg cs,iZ m] st v st'∧v=.bool true∧Qt st st') (fun o a b g n l ih=>?_) x;intro m R st cs hf hR hr hc hm1 hm2;have hr0:=hr;obtain⟨kc,ls,rfl,hK⟩:=hr.U0;have hln:=hK.ln;have hbn:=hK.W3;refine J7 Tryz.func78 Tryz.ntmps78 fun T K=>?_;have M:=Mem.start hf;refine Qb 0 K M fun _ K=>?_;refine Jv K M rfl (Qa rfl (Qa rfl (Qa rfl (Qa rfl (Qa rfl (Qa hK.cell Qz)))))) Q8 fun c2 _ _ K M=>?_;refine au 4 K M ?_;intro c3 _ _ K _ M;refine oQ K M (qj M.fresh (M.Yy hR) hr0 hc) rfl rfl fun _ _ K M=>?_;refine Qb 4 K M fun _ K=>?_;refine p1 K (QG (b:=[101,120]) rfl rfl) fun _ K=>?_;refine Qb 0 K M fun _ K=>?_;refine Jt K rfl (fun h11=>?_) fun h11=>?_
 ·have hcx:=hc;rw[QV,if_pos h11]at hcx;simp only[Bool.and_eq_true,decide_eq_true_eq]at hcx;obtain⟨_,_,_,_,hm6,_,_,hcl⟩:=hcx;refine au 5 K M ?_;intro _ _ K _ M;refine p1 K (X9 rfl rfl) fun _ K=>?_;have r3:=M.Ya (k:=0) rfl;obtain⟨v17,st17,ev17,rfl,q17⟩:=Iy (R:=R) M.fresh (M.Yy hR) hK (fo:=106) (fa:=[]) (fc:=[.ptr c3 0 0]) (fun k cs hm hk st1 q=>Tz (m:=(m+1)) q.fresh (fun c m l hr=>by obtain⟨ro,e,vs,ms,h2,h3⟩:=M.Yy hR c m l hr;exact⟨ro,e,vs,ms,by rw[q.J9 c (Nat.lt_of_not_le fun hle=>by rw[M.fresh c hle]at h2;cases h2)];exact h2,h3⟩) hk (r3.frame (q.J9 c3 (r3.lt M.fresh))) (fun st2 q2 hR2=>ih k hm _ R _ _ q2.fresh hR2 hk (Ea hcl hm) Qc Qc));refine p1 K (Qf rfl ev17) fun _ K=>?_;replace M:=M.quiet q17;refine Qb 2 K M ?_;exact⟨rfl,M.qt⟩
 refine Qb 0 K M fun _ K=>?_;have hcx:=hc;rw[QV,if_neg h11]at hcx;simp only[Bool.and_eq_true,decide_eq_true_eq]at hcx;obtain⟨_,_,_,_,_,_,hcl⟩:=hcx;refine Qb 2 K M fun _ K=>?_;refine p1 K (X9 rfl rfl) fun _ K=>?_;have r3:=M.Ya (k:=0) rfl;obtain⟨v17,st17,ev17,rfl,q17⟩:=Iy (R:=R) M.fresh (M.Yy hR) hK (fo:=106) (fa:=[]) (fc:=[.ptr c3 0 0]) (fun k cs hm hk st1 q=>Tz (m:=m) q.fresh (fun c m l hr=>by obtain⟨ro,e,vs,ms,h2,h3⟩:=M.Yy hR c m l hr;exact⟨ro,e,vs,ms,by rw[q.J9 c (Nat.lt_of_not_le fun hle=>by rw[M.fresh c hle]at h2;cases h2)];exact h2,h3⟩) hk (r3.frame (q.J9 c3 (r3.lt M.fresh))) (fun st2 q2 hR2=>ih k hm _ R _ _ q2.fresh hR2 hk (Ea hcl hm) Qc Qc));refine p1 K (Qf rfl ev17) fun _ K=>?_;replace M:=M.quiet q17;refine Qb 2 K M ?_;exact⟨rfl,M.qt⟩

theorem TE{R:VN}{st:St}(hf:Qi st)(hR:Yy R st.h.get){a:Int}(hr:YI R (.mk o a b g n l) cs){m:Int}(h0:0≤m)(h6:m≤6)(hsz:Vg (.mk o a b g n l)≤2000)(hc:QV (.mk o a b g n l) m=true): ∃v st',Jf 53 [.agg cs,iZ m] st v st'∧v=.bool true∧Qt st st':=by
 have hr0:=hr;obtain⟨kc,ls,rfl,hK⟩:=hr.U0;have hln:=hK.ln;have hbn:=hK.W3;refine J7 Tryz.func53 Tryz.ntmps53 fun T K=>?_;have M:=Mem.start hf;refine Qb 0 K M fun _ K=>?_;refine Jv K M rfl (Qa rfl (Qa rfl (Qa rfl (Qa rfl (Qa rfl (Qa hK.cell Qz)))))) Q8 fun c2 _ _ K M=>?_;refine Qb 3 K M fun _ K=>?_;refine Ug K rfl (fun _ e7 K=>?_) fun _ e7 K=>?_
 ·exfalso;omega
 refine Qb 3 K M fun _ K=>?_;refine Ug K rfl (fun _ e11 K=>?_) fun _ e11 K=>?_
 ·exfalso;omega
 refine Qb 1 K M fun _ K=>?_;obtain⟨v13,st13,ev13,rfl,q13⟩:=qv M.fresh (M.Yy hR) hr0;refine pg K rfl rfl (Qf rfl ev13) fun _ K=>?_;replace M:=M.quiet q13;refine Qb 2 K M fun _ K=>?_;refine Ug K rfl (fun _ e16 K=>?_) fun _ e16 K=>?_
 ·exfalso;omega
 refine Qb 2 K M fun _ K=>?_;obtain⟨v19,st19,ev19,rfl,q19⟩:=vB (.mk o a b g n l) m R _ _ M.fresh (M.Yy hR) hr0 hc Qc Qc;refine pg K rfl rfl (Qf rfl ev19) fun _ K=>?_;replace M:=M.quiet q19;refine Qb 2 K M ?_;exact⟨rfl,M.qt⟩
end
section
variable {a:Au}

theorem yJ{xs out:List Int}(hx:xs.length=a.n)(ho:out.length=a.n)(W:Zp a)(hF:Kp a (Ui [] xs))(f:AQ a (Ui [] xs) (Ui [] out))(e:Ui [] out=Ui [] xs):ZO a (Ui [] xs):=
 hF.IG W (Ae f fun s t _ _ h=>by rw[e];exact h)
theorem ag{xs out:List Int}(hx:xs.length=a.n)(ho:out.length=a.n)(f:AQ a (Ui [] xs) (Ui [] out))(hne: ¬Ui [] out=Ui [] xs):(JZ [] xs).length<(JZ [] out).length:=by
 obtain⟨h1,h2⟩:=BR f (D6 a.n xs hx) (D6 a.n out ho);rcases Nat.lt_or_ge (JZ [] xs).length (JZ [] out).length with h|h
 ·exact h
 ·exact absurd (MC hx ho f (h2 (Nat.le_antisymm h1 h))) hne
theorem zx{st0 st:St}{X0:Fp}{L A B0:QM}{o:Ob}{Os:List Ob}{n0 z:Nat}{ks:AV}{ls:List (List AV)}(B:Qk st0 X0 st (L++(A++B0)) (o::Os))(hA:Acc n0 z A ks ls): ∀c m p n y,ks=.sl c m p n y→ ¬o.F c:=fun c m p n y e hc=>by
 obtain⟨m',l',hm⟩:=hA.vk c m p n y e;exact B.djM o (List.mem_cons_self ..) c m' l' (by simp[hm]) hc

theorem DH{st:St}(hf:Qi st){F:Fp}{dp:Nat}(hD:UX st F dp a): ∃v st',Jf 111 [.ptr dp 0 0] st v st'∧ ∃kr cl,v=kr∧ZO a cl∧(∀s,s<a.n→0≤cv cl s∧cv cl s<((a.n:Nat):Int))∧ED st st' 1 kr (zC cl)∧Qt st st':=by
 have wf:=hD.wf;have htr:=wf.tr;have hmo:=wf.most;have hps:=wf.pos;have hln:=wf.len;have hen:a.n=a.acc.length:=rfl;have h127:2^(a.tr+1)≤128:=Nat.pow_le_pow_right Q8 (by omega:a.tr+1≤7);have B:=Qk.start hf;refine J7 Tryz.func111 Tryz.ntmps111 fun T K=>?_;have M:=B.mem;refine Qb 2 K M fun _ K=>?_;refine p1 K (Yg JX rfl rfl) fun _ K=>?_;refine Qb 2 K M fun _ K=>?_;refine oQ K M (X1 M.fresh (hD.q (B.step M).qt)) rfl rfl fun _ _ K M=>?_;replace B:=B.step M;obtain⟨v14,st14,ev14,sp,FS,rfl,hS0,nfS,q14⟩:=TM B.fresh wf.tr;refine p1 K (Qf rfl ev14) fun _ K=>?_;replace B:=B.new (o:=XG FS sp a.tr []) q14 hS0.at_ nfS;have M:=B.mem;refine Qb 4 K M fun _ K=>?_;replace B:=B.step M;obtain⟨v16,st16,ev16,nau,q16⟩:=Oi B.fresh (hD.q B.qt);refine p1 K (Qf rfl ev16) fun _ K=>?_;obtain⟨kato,kn,vs,Ato,Fn,rfl,hAto,B⟩:=B.KE q16 nau;replace B:=B.less (List.sublist_append_left _ _);have hkato:=hAto.cell;replace B:=B.G5 (.swap ..);have M:=B.mem;refine p1 K (Ap rfl ((Zw _).trans (Qd Q7 rfl))) fun _ K=>p1 K (Q5 JS rfl rfl ((B.step M).at_ (k:=1) rfl).len) fun _ K=>?_;refine Qb 1 K M fun _ K=>?_;refine QX (fun mm1 T st9=> ∃(i:Nat) (rs:List Nat) (S:U7) (F2:Fp) (kr:AV) (Ar:QM) (kc:AV) (Ac:QM),mm1=a.nx.length-i∧QS [(0,.ptr dp 0 0),(2,.nils),(3,.ptr sp 0 0),(4,kr),(5,kc),(17,kn),(18,iZ (a.nx.length:Nat)),(19,iN i)] T∧Qk st ZQ st9 (Ar++(Ac++[])) [XG F2 sp a.tr S,Ce Fn kn vs a.nx]∧rs.length=i∧i≤a.nx.length∧Xi a.tr S a rs∧Xn a.tr S∧S.length≤i *127∧Acc 0 1 Ar kr (zC (zN rs))∧Acc 0 1 Ac kc (zC (CB a i))) (fun mm1 T st9 hI=>?_) _ _ _ ⟨0,[],[],FS,.nils,[],.nils,[],rfl,(K.sub rfl),(B.step M).less (.refl _),rfl,(Nat.zero_le _),(fun s r h=>by simp at h),(Xn.nil _),(Nat.zero_le _),.none,.none⟩;obtain⟨i,rs,S,F2,kr,Ar,kc,Ac,rfl,K,B,hil,hi,hrs,wfS,hSl,hAr,hAc⟩:=hI;have M:=B.mem;refine Qb 1 K M fun _ K=>?_;refine Jt K rfl (fun h20=>?_) fun h20=>?_
 ·refine Qb 1 K M fun _ K=>?_;obtain⟨s22,hi22⟩:=Uy a.nx i Qc;obtain⟨w22,hv22,hr22,hz22,hf22⟩:=((B.step M).at_ (k:=1) rfl).vs.at_ _ _ hi22;have hw22:=wf.row s22 (List.mem_of_getElem? hi22);have hl22:s22.length=2^a.tr:=hw22.1;refine oI ((B.step M).at_ (k:=1) rfl).rd (by rw[List.getElem?_map,hv22];rfl) K QY Ja rfl rfl rfl fun _ _ _ _ K=>?_;refine Qb 5 K M fun _ K=>?_;replace B:=B.step M;obtain⟨v27,st27,ev27,i1,S3,rfl,hout,mb,hev⟩:=zb B.fresh (B.Kx (k:=0) rfl) wf.tr wfS (by rw[Nat.sub_zero];omega) (row:=s22) (X3.row (B.at_ (k:=1) rfl) hi22 hv22) (fun c m o n y e=>B.J2 (j:=1) (k:=0) rfl rfl Q8 c (hf22 c m o n y e)) hw22.1 (fun x hx=>by have:=hw22.2 x hx;omega);refine p1 K (Qf rfl ev27) fun _ K=>?_;obtain⟨F3,B⟩:=B.Wf hout;have M:=B.mem;have hmbl:=mb.len
  have hev2: ∀c,c<2^a.tr→Y4 S3 i1 c=((a.go i c:Nat):Int):=fun c hc=>by have h:=hev c hc;rw[JH hi22 h];have:=hw22.2 _ (List.mem_of_getElem? h);omega
  refine au 1 K M ?_;intro c28 _ _ K _ M;refine QZ (k2:=0) (L:=[(c28,0,[iN i1])]) (B:=(Ac++[])) K M hAr QD rfl rfl rfl rfl (by rw[Qp,List.length_map];omega) rfl fun ks29 A29 _ _ K hA29 M=>?_;refine Qb 4 K M fun _ K=>?_;refine oQ K M (VG M.fresh (hD.q (B.step M).qt) (s:=i) Qc) rfl rfl fun _ _ K M=>?_;refine Qb 0 K M fun _ K=>?_;refine Uq K rfl (fun h32=>?_) fun h32=>?_
  ·have hb32:=h32;refine Qb 1 K M fun _ K=>?_
   have hbit:((EC (a.ok i):Nat):Int)=1:=by rw[h32];rfl
   refine au 3 K M ?_;intro c35 _ _ K _ M;refine QZ (k2:=0) (L:=((c35,0,[iZ 1])::(c28,0,[iN i1])::(A29++[]))) (B:=[]) K (Mem.cast M Ux) hAc QD rfl rfl rfl rfl (by rw[Qp,VM];omega) rfl fun ks36 A36 _ _ K hA36 M=>?_;simp only[XB]at M;refine Qb 3 K M fun _ K=>?_;exact⟨_,Qc,i+1,(rs++[i1]),S3,F3,ks29,A29,ks36,A36,rfl,(K.sub rfl),(B.step M).less (.cons _ (.cons _ (.refl _))),(by rw[List.length_append,hil];rfl),Qc,((hrs.pre wfS mb.pre).snoc mb.lt (fun c hc=>by rw[hil];exact hev2 c hc)),mb.wf,Qc,(by rw[H7,JW];exact hA29),(by rw[Bm,hbit,JW];exact hA36)⟩
  have hb32:=h32;refine Qb 0 K M fun _ K=>?_
  have hbit:((EC (a.ok i):Nat):Int)=0:=by rw[h32];rfl
  refine au 3 K M ?_;intro c35 _ _ K _ M;refine QZ (k2:=0) (L:=((c35,0,[iZ 0])::(c28,0,[iN i1])::(A29++[]))) (B:=[]) K (Mem.cast M Ux) hAc QD rfl rfl rfl rfl (by rw[Qp,VM];omega) rfl fun ks36 A36 _ _ K hA36 M=>?_;simp only[XB]at M;refine Qb 3 K M fun _ K=>?_;exact⟨_,Qc,i+1,(rs++[i1]),S3,F3,ks29,A29,ks36,A36,rfl,(K.sub rfl),(B.step M).less (.cons _ (.cons _ (.refl _))),(by rw[List.length_append,hil];rfl),Qc,((hrs.pre wfS mb.pre).snoc mb.lt (fun c hc=>by rw[hil];exact hev2 c hc)),mb.wf,Qc,(by rw[H7,JW];exact hA29),(by rw[Bm,hbit,JW];exact hA36)⟩
 refine QK ?_;show W _ _ _ _ _ _ _;refine Qb 1 K M fun _ K=>?_
 have hin:i=a.n:=by omega
 rw[hin]at hAc hSl hil;obtain⟨v39,st39,ev39,kn0,rfl,nr0,q39⟩:=KD M.fresh (Mem.Ys (L:=((Ar++[]))) (B:=[]) (Mem.cast M Ux) hAc) (by rw[VM];omega);refine p1 K (Qf rfl ev39) fun _ K=>?_;obtain⟨An,hAn,M⟩:=M.Yx q39 nr0;replace hAn:=hAn.z0;simp only[XB]at M;replace M:=M.less (.append_left (List.sublist_append_right _ _) _);refine Qb 1 K M fun _ K=>?_;refine QX (fun mm2 T st9=> ∃(xs:List Int) (S:U7) (F2:Fp) (kc:AV) (Ac:QM),mm2=a.n-(JZ [] xs).length∧QS [(0,.ptr dp 0 0),(3,.ptr sp 0 0),(4,kr),(5,kc)] T∧Qk st ZQ st9 (Ar++(Ac++[])) [XG F2 sp a.tr S,Ce Fn kn vs a.nx]∧xs.length=a.n∧Kp a (Ui [] xs)∧Xi a.tr S a rs∧Xn a.tr S∧S.length≤50800+(JZ [] xs).length *50800∧Acc 0 1 Ac kc (zC (Ui [] xs))) (fun mm2 T st9 hI=>?_) _ _ _ ⟨CB a a.n,S,F2,v39,An,rfl,(K.sub rfl),(B.step M).less (.refl _),(VM a a.n),(qO a),hrs,wfS,Qc,hAn⟩;obtain⟨xs,S,F2,kc,Ac,rfl,K,B,hxl,hF,hrs,wfS,hSl,hAc⟩:=hI;have M:=B.mem;refine Qb 4 K M fun _ K=>?_;replace B:=B.step M;have M:=B.mem;have hks:=AX xs [];obtain⟨v44,st44,ev44,kr4,S4,out,st2,rfl,hout4,q4,nr4,hpre4,wfS4,hl4,hol,hfin⟩:=Ry B.fresh (hD.q B.qt) (B.Kx (k:=0) rfl) (fun c hc hc2=>by have h1:=hD.hi c hc;have:=(B.uA (k:=0) rfl c hc2).1;omega) wfS (rs:=rs) (Mem.Ys (L:=[]) (B:=(Ac++[])) M hAr) (zx (B.cast (M':=[]++(Ar++(Ac++[]))) Ux) hAr) hil hrs (cl:=Ui [] xs) (Mem.Ys (L:=((Ar++[]))) (B:=[]) (Mem.cast M Ux) hAc) (by rw[XL];exact hxl) (Tg hxl) (zx (B.cast (M':=((Ar++[]))++(Ac++[])) Ux) hAc) (by simp only[List.length_nil]at hks;omega);refine p1 K (Qf rfl ev44) fun _ K=>?_;obtain⟨F4,B⟩:=B.Wf hout4;have M:=B.mem;obtain⟨Ao,hAo,M⟩:=M.Yx q4 nr4;replace hAo:=hAo.z0;simp only[XB]at M;refine Qb 3 K M fun _ K=>?_;refine oQ K M (qm M.fresh (Mem.Ys (L:=((Ar++(Ac++[])))) (B:=[]) (Mem.cast M Ux) hAo) (Mem.Ys (L:=((Ar++[]))) (B:=(Ao++[])) (Mem.cast M Ux) hAc)) rfl rfl fun _ _ K M=>?_;refine Qb 0 K M fun _ K=>?_;refine Jt K rfl (fun h47=>?_) fun h47=>?_
 ·refine Qb 2 K M ?_;exact⟨_,Ui [] xs,rfl,yJ hxl hol wf hF hfin h47,Tg hxl,(B.step M).newRow hAc (fun c m l h=>by simp[h]),(B.step M).qt⟩
 refine Qb 0 K M fun _ K=>?_;replace M:=M.less (.append_left (List.sublist_append_right _ _) _);have hon2:=ag hxl hol hfin h47;have hks2:=AX out [];simp only[List.length_nil]at hks2 hks;refine Qb 2 K M fun _ K=>?_;exact⟨_,Qc,out,S4,F4,_,Ao,rfl,(K.sub rfl),(B.step M).less (.refl _),hol,(hF.yn wf hfin),(hrs.pre wfS hpre4),wfS4,Qc,hAo⟩
end
section

theorem Qk.Xf{st0 st:St}{X0:Fp}{M:QM}{Os Os':List Ob}(B:Qk st0 X0 st M Os)(e:Os=Os'):Qk st0 X0 st M Os':=e▸B
theorem jb{α:Type}{l l2:List α}{i:Nat}(h:l2.take (i+1)=l.take (i+1)):l[i]? =l2[i]? :=by
 have:=congrArg (fun x=>x[i]?) h;simp only[List.getElem?_take,if_pos (Nat.lt_succ_self i)]at this;exact this.symm

theorem Ts{st:St}(hf:Qi st){F:Fp}{dp:Nat}{a:Au}(hD:UX st F dp a): ∃v st',Jf 81 [.ptr dp 0 0] st v st'∧ ∃dp2 F2 m,v=.tup [.ptr dp2 0 0,iZ 0]∧JR a m∧UX st' F2 dp2 m∧ZP st st' F2∧Qt st st':=by
 have wf:=hD.wf;have htr:=wf.tr;have hmo:=wf.most;have hps:=wf.pos;have hln:=wf.len;have hen:a.n=a.acc.length:=rfl;have hp6:=JG htr;have B:=Qk.start hf;refine J7 Tryz.func81 Tryz.ntmps81 fun T K=>?_;have M:=B.mem;refine Qb 3 K M fun _ K=>?_;refine p1 K (Yg JX rfl rfl) fun _ K=>?_;refine Qb 2 K M fun _ K=>?_;obtain⟨v18,st18,ev18,kc0,cl,rfl,hcls,hcv,nrc,q18⟩:=DH M.fresh (hD.q M.qt);refine p1 K (Qf rfl ev18) fun _ K=>?_;obtain⟨Ac,hAc,M⟩:=M.Yx q18 nrc;replace hAc:=hAc.z0;have hcll:=hcls.len;simp only[XB]at M;refine Qb 2 K M fun _ K=>?_;replace B:=B.step M;obtain⟨v20,st20,ev20,nau,q20⟩:=Oi B.fresh (hD.q B.qt);refine p1 K (Qf rfl ev20) fun _ K=>?_;obtain⟨kato,kn,vs,Ato,Fn,rfl,hAto,B⟩:=B.KE q20 nau;replace B:=B.less (List.sublist_append_left _ _);have hkato:=hAto.cell;have hknc:Qr kn=true:=(X3.rd (B.at_ (k:=0) rfl)).cell;have M:=B.mem;refine p1 K (Ap rfl ((Zw _).trans (Qd Q7 rfl))) fun _ K=>?_;refine Qb 1 K M fun _ K=>?_;replace B:=B.step M;refine W4 Lb K B rfl fun c22 _ _ K B=>?_;have M:=B.mem;refine Qb 1 K M fun _ K=>?_;obtain⟨y24,hi24⟩:=Uy cl 0 Qc
 have hcy24:cv cl 0=y24:=by unfold cv;rw[hi24];rfl
 refine oI (Mem.Ys (L:=[]) (B:=[]) M hAc) (Jm hi24) K Qo Qn rfl rfl rfl fun _ _ _ _ K=>?_;replace B:=B.step M;refine zL (j:=0) (a:=y24) K B rfl Ie rfl rfl rfl rfl rfl fun _ B=>?_;replace B:=B.Xf (Os':=Wp c22 Lb (UU 0 (([0]:List Nat).map (cv cl)))::[Ce Fn kn vs a.nx]) (by rw[show([0]:List Nat).map (cv cl)=[y24] by rw[List.map_singleton,hcy24]];rfl);have M:=B.mem;refine au 4 K M ?_;intro c27 _ _ K _ M;replace M:=Mem.cast (M':=(Ac++([(c27,0,[iZ 0])]++[]))) (Mem.perm M (List.perm_append_comm (α:=Nat×Nat×List AV) (l₁:=[(c27,0,[iZ 0])]) (l₂:=(Ac++[])))) Ux;have hAL0:Acc 0 1 [(c27,0,[iZ 0])] (.sl c27 0 0 1 1) [[iZ 0]]:=Acc.own (n0:=0) (z:=1) (c:=c27) (m:=0) (ls:=[[iZ 0]]) (Nat.zero_le _) Q4 Q4;refine Qb 1 K M fun _ K=>?_;refine oQ K M (X1 M.fresh (hD.q (B.step M).qt)) rfl rfl fun _ _ K M=>?_;refine au 3 K M ?_;intro c8 _ _ K _ M;replace B:=(B.step M).V9;have M:=B.mem;refine Qb 1 K M fun _ K=>?_;refine QX (fun mm1 T st9=> ∃(i:Nat) (ls:List Nat) (kl:AV) (Al:QM) (rows:List (List Int)) (vs2:List AV) (Fr:Fp) (ka:AV) (Aa:QM) (kr:AV) (Ar:QM),mm1=a.n-i∧QS [(0,.ptr dp 0 0),(2,.nilp),(3,iZ 0),(4,v18),(5,kn),(6,.mp c22),(7,kl),(8,.ptr c8 0 0),(9,iN i)] T∧Qk st ZQ st9 ((c8,0,[iZ (a.tr:Nat),ka,kr])::(Ac++(Al++(Aa++(Ar++[]))))) [EX Fr vs2 rows,Wp c22 Lb (UU 0 (ls.map (cv cl))),Ce Fn kn vs a.nx]∧VO a cl ls rows []∧rows.length=i∧i≤ls.length∧Acc 0 1 Al kl (zC (zN ls))∧Acc 0 1 Aa ka (bC ((ls.take i).map a.ok))∧YS Ar kr vs2) (fun mm1 T st9 hI=>?_) _ _ _ ⟨0,[0],(.sl c27 0 0 1 1),[(c27,0,[iZ 0])],[],[],ZQ,.nils,[],.nils,[],rfl,(K.sub rfl),(B.step M).less (.refl _),(VO.start wf),rfl,(Nat.zero_le _),hAL0,.none,.none⟩;obtain⟨i,ls,kl,Al,rows,vs2,Fr,ka,Aa,kr,Ar,rfl,K,B,hm,hrl,hil,hAl,hAa,hAr⟩:=hI;have M:=B.mem;have hlsn:=hm.le hcv;refine Qb 2 K M fun _ K=>?_;refine p1 K (Q5 Je rfl rfl (hAl.len.trans (congrArg some (by rw[Qp,List.length_map])))) fun _ K=>?_;refine Qb 1 K M fun _ K=>?_;refine Jt K rfl (fun h34=>?_) fun h34=>?_
 ·refine Qb 4 K M fun _ K=>?_;obtain⟨y40,hi40⟩:=Uy ls i Qc;have hls40:=hm.lt y40 (List.mem_of_getElem? hi40);refine oI (Mem.Ys (L:=((c8,0,[iZ (a.tr:Nat),ka,kr])::(Ac++[]))) (B:=(Aa++(Ar++[]))) (Mem.cast M Ux) hAl) (Xw hi40) K Qo Qn rfl rfl rfl fun _ _ _ _ K=>?_;obtain⟨s42,hi42⟩:=Uy a.nx y40 Qc;obtain⟨w42,hv42,hr42,hz42,hf42⟩:=((B.step M).at_ (k:=2) rfl).vs.at_ _ _ hi42;have hw42:=wf.row s42 (List.mem_of_getElem? hi42);have hl42:s42.length=2^a.tr:=hw42.1;refine oI ((B.step M).at_ (k:=2) rfl).rd (by rw[List.getElem?_map,hv42];rfl) K QY Ja rfl rfl rfl fun _ _ _ _ K=>?_;refine p1 K (Q5 Je rfl rfl (hr42.len.trans (congrArg some (Qp _)))) fun _ K=>?_;refine Qb 1 K M fun _ K=>?_;refine QX (fun mm2 T st9=> ∃(c:Nat) (ls2:List Nat) (kl2:AV) (Al2:QM) (row:List Int) (kw:AV) (Aw:QM),mm2=2^a.tr-c∧QS [(0,.ptr dp 0 0),(2,.nilp),(3,iZ 0),(4,v18),(5,kn),(6,.mp c22),(7,kl2),(8,.ptr c8 0 0),(9,iN i),(10,kw),(34,.bool (decide (((i:Nat):Int)<((ls.length:Nat):Int)))),(43,w42),(44,iZ (s42.length:Nat)),(45,iN c)] T∧Qk st ZQ st9 ((c8,0,[iZ (a.tr:Nat),ka,kr])::(Ac++(Al2++(Aa++(Ar++(Aw++[])))))) [EX Fr vs2 rows,Wp c22 Lb (UU 0 (ls2.map (cv cl))),Ce Fn kn vs a.nx]∧VO a cl ls2 rows row∧row.length=c∧c≤2^a.tr∧ls2.take (i+1)=ls.take (i+1)∧Acc 0 1 Al2 kl2 (zC (zN ls2))∧Acc 0 1 Aw kw (zC row)) (fun mm2 T st9 hI=>?_) _ _ _ ⟨0,ls,kl,Al,[],.nils,[],rfl,(K.sub rfl),(B.step M).less (.refl _),hm,rfl,(Nat.zero_le _),rfl,hAl,.none⟩;obtain⟨c,ls2,kl2,Al2,row,kw,Aw,rfl,K,B,hm2,hrow,hcK,htk,hAl2,hAw⟩:=hI;have M:=B.mem;have hls2:=hm2.le hcv;have hi2:=Uu htk Qc;refine Qb 1 K M fun _ K=>?_;refine Jt K rfl (fun h46=>?_) fun h46=>?_
  ·refine Qb 0 K M fun _ K=>?_;obtain⟨y47,hi47⟩:=Uy s42 c Qc;have hb47:=hw42.2 y47 (List.mem_of_getElem? hi47);obtain⟨z47,rfl⟩: ∃m:Nat,y47=((m:Nat):Int):=⟨_,(Int.toNat_of_nonneg hb47.1).symm⟩;refine oI (X3.row ((B.step M).at_ (k:=2) rfl) hi42 hv42) (Jm hi47) K Qo Qn rfl rfl rfl fun _ _ _ _ K=>?_;refine Qb 4 K M fun _ K=>?_;obtain⟨y53,hi53⟩:=Uy cl z47 Qc
   have hcy53:cv cl z47=y53:=by unfold cv;rw[hi53];rfl
   refine oI (Mem.Ys (L:=[(c8,0,[iZ (a.tr:Nat),ka,kr])]) (B:=(Al2++(Aa++(Ar++(Aw++[]))))) M hAc) (Jm hi53) K Qo Qn rfl rfl rfl fun _ _ _ _ K=>?_;refine p1 K (WI (a:=y53) Ie ((B.step M).at_ (k:=1) rfl) rfl rfl) fun _ K=>?_;refine Qb 7 K M fun _ K=>?_;refine Uq K rfl (fun h59=>?_) fun h59=>?_
   ·have hb59:=h59
    replace h59:((Yp (UU 0 (ls2.map (cv cl))) y53).isSome)=false:=by simpa using h59
    refine Qb 1 K M fun _ K=>?_;refine p1 K (Q5 Je rfl rfl (hAl2.len.trans (congrArg some (by rw[Qp,List.length_map])))) fun _ K=>?_;refine Qb 4 K M fun _ K=>?_;refine oI (Mem.Ys (L:=[(c8,0,[iZ (a.tr:Nat),ka,kr])]) (B:=(Al2++(Aa++(Ar++(Aw++[]))))) M hAc) (Jm hi53) K Qo Qn rfl rfl rfl fun _ _ _ _ K=>?_;refine Qb 1 K M fun _ K=>?_
    have hnone:Yp (UU 0 (ls2.map (cv cl))) y53=none:=by cases hq:Yp (UU 0 (ls2.map (cv cl))) y53 with|none=>rfl|some x=>rw[hq]at h59;cases h59
    have hnm:=NI hnone;replace B:=B.step M;refine H8 (j:=1) (a:=y53) K B rfl Ie rfl rfl rfl rfl hnone fun _ B=>?_;rw[show UU 0 (ls2.map (cv cl))++[(y53,iZ (ls2.length:Nat))]=UU 0 ((ls2++[z47]).map (cv cl)) by rw[List.map_append,List.map_singleton,hcy53,Fu,Nat.zero_add,List.length_map]]at B;have M:=B.mem;refine au 3 K M ?_;intro c70 _ _ K _ M;refine QZ (k2:=0) (L:=((c70,0,[iN z47])::(c8,0,[iZ (a.tr:Nat),ka,kr])::(Ac++[]))) (B:=(Aa++(Ar++(Aw++[])))) K (Mem.cast M Ux) hAl2 QD rfl rfl rfl rfl (by simp only[Qp,zN,List.length_map];omega) rfl fun ks71 A71 _ _ K hA71 M=>?_;simp only[XB]at M;refine au 4 K M ?_;intro c74 _ _ K _ M;refine QZ (k2:=0) (L:=((c74,0,[iZ (ls2.length:Nat)])::(c70,0,[iN z47])::(c8,0,[iZ (a.tr:Nat),ka,kr])::(Ac++(A71++(Aa++(Ar++[])))))) (B:=[]) K (Mem.cast M Ux) hAw QD rfl rfl rfl rfl (by rw[Qp];omega) rfl fun ks75 A75 _ _ K hA75 M=>?_;simp only[XB]at M;refine Qb 3 K M fun _ K=>?_;have hm3:=hm2.new wf hcls (s:=y40) (y:=z47) (by rw[hrl,←jb htk];exact hi40) Qc (by rw[hrow];exact JH hi42 hi47) Qc (by rw[hcy53];exact hnm);exact⟨_,Qc,c+1,(ls2++[z47]),ks71,A71,(row++[((ls2.length:Nat):Int)]),ks75,A75,rfl,(K.sub rfl),(B.step M).less (.cons _ (.cons _ (.refl _))),hm3,(by rw[List.length_append,hrow];rfl),Qc,(by rw[List.take_append_of_le_length hi2,htk]),(by rw[H7,JW];exact hA71),(by rw[JW];exact hA75)⟩
   have hb59:=h59
   replace h59:((Yp (UU 0 (ls2.map (cv cl))) y53).isSome)=true:=by simpa using h59
   refine Qb 0 K M fun _ K=>?_
   obtain⟨v0,hv0⟩: ∃x,Yp (UU 0 (ls2.map (cv cl))) y53=some x:=by cases hq:Yp (UU 0 (ls2.map (cv cl))) y53 with|none=>rw[hq]at h59;cases h59|some x=>exact⟨x,rfl⟩
   obtain⟨j,hj,rfl⟩:=NH hv0;rw[hv0]at K;refine au 3 K M ?_;intro c74 _ _ K _ M;refine QZ (k2:=0) (L:=((c74,0,[iN j])::(c8,0,[iZ (a.tr:Nat),ka,kr])::(Ac++(Al2++(Aa++(Ar++[])))))) (B:=[]) K (Mem.cast M Ux) hAw QD rfl rfl rfl rfl (by rw[Qp];omega) rfl fun ks75 A75 _ _ K hA75 M=>?_;simp only[XB]at M;refine Qb 3 K M fun _ K=>?_;have hm3:=hm2.J9 wf hcls (s:=y40) (y:=z47) (j:=j) (by rw[hrl,←jb htk];exact hi40) Qc (by rw[hrow];exact JH hi42 hi47) (by rw[hcy53];exact hj);exact⟨_,Qc,c+1,ls2,kl2,Al2,(row++[((j:Nat):Int)]),ks75,A75,rfl,(K.sub rfl),(B.step M).less (.cons _ (.refl _)),hm3,(by rw[List.length_append,hrow];rfl),Qc,htk,hAl2,(by rw[JW];exact hA75)⟩
  refine QK ?_;show W _ _ _ _ _ _ _;refine Qb 1 K M fun _ K=>?_;refine p1 K (Qg rfl (M.load (k:=0) rfl (Qd Q7 rfl))) fun _ K=>?_;refine Qb 1 K M fun _ K=>?_;refine Xo K M QQ Ut rfl ((JB rfl hAw.cell rfl).trans rfl) (Qa hAw.cell Qz) rfl rfl fun c80 _ _ K M=>?_;refine YL (k2:=0) (L:=((c80,0,[kw])::(c8,0,[iZ (a.tr:Nat),ka,kr])::(Ac++(Al2++(Aa++[]))))) (B:=(Aw++[])) K (Mem.cast M Ux) hAr QQ rfl rfl rfl (by have:=Zl.ln ((B.step M).at_ (k:=0) rfl);omega) rfl fun ks81 A81 _ _ K hA81 _ M=>?_;simp only[XB]at M;refine Qb 1 K M fun _ K=>?_;refine Jk (k:=1) K M rfl rfl rfl Uv (hA81.cell) rfl fun _ M=>?_;refine Qb 0 K M fun _ K=>?_;refine QA (l:=[(2,0),(3,0),(4,0),(5,0),(6,0),(7,0),(0,0),(1,1),(8,0),(9,0),(10,0),(11,0)]) (by kernel_rfl) ?_;have Mq:=M;refine Jo 3 K M fun _ K=>?_;obtain⟨y88,hi88⟩:=Uy ls2 i Qc;have hls88:=hm2.lt y88 (List.mem_of_getElem? hi88);refine dI rfl rfl (Mem.Ys (L:=((c80,0,[kw])::(c8,0,[iZ (a.tr:Nat),ka,ks81])::(Ac++[]))) (B:=(Aa++(A81++(Aw++[])))) (Mem.cast M Ux) hAl2) (Xw hi88) K Qo Qn rfl rfl rfl fun _ _ _ _ K=>?_;obtain⟨v90,st90,ev90,rfl,q90⟩:=VG M.fresh (hD.q (B.step M).qt) (s:=y88) Qc;refine qA rfl K (Qf rfl ev90) fun _ K=>?_;replace M:=M.quiet q90;have Mp:=Mq;have Mq:=M;refine Jo 1 K M fun _ K=>?_;refine Ju rfl K rfl (M.load (k:=1) rfl (Qd Um rfl)) (Mp.load (k:=1) rfl (Qd Um rfl)) (JI (Ub hAa.len)) rfl Q8 fun _ K=>?_;refine Xp rfl K M J3 Vk rfl rfl rfl rfl rfl fun c91 _ _ K M=>?_;refine ZT (k2:=0) (L:=((c91,0,[.bool (a.ok y88)])::(c80,0,[kw])::(c8,0,[iZ (a.tr:Nat),ka,ks81])::(Ac++(Al2++[])))) (B:=(A81++(Aw++[]))) rfl K (Mem.cast M Ux) hAa J3 rfl rfl rfl rfl (by rw[Up,List.length_map,List.length_take];omega) rfl fun ks92 A92 _ _ K hA92 M=>?_;simp only[XB]at M;have Mp:=Mq;have Mq:=M;refine Jo 1 K M fun _ K=>?_;refine Ze (k:=2) rfl K M rfl rfl rfl UG (hA92.cell) rfl fun _ M=>?_;have Mp:=Mq;have Mq:=M;refine QF ?_;show W _ _ _ _ _ _ _;refine Qb 3 K M fun _ K=>?_;replace B:=B.step M;obtain⟨Fr,B⟩:=Qk.ZD (L:=((c91,0,[.bool (a.ok y88)])::(c80,0,[kw])::(c8,0,[iZ (a.tr:Nat),ks92,ks81])::(Ac++(Al2++(A92++(A81++[])))))) (B:=[]) (B.cast Ux) hAw (hm2.pr.F7 (by rw[List.length_map];omega));replace B:=B.cast (M':=((c91,0,[.bool (a.ok y88)])::(c80,0,[kw])::(c8,0,[iZ (a.tr:Nat),ks92,ks81])::(Ac++(Al2++(A92++(A81++[])))))) Ux;have M:=B.mem;have hi2:=Uu htk Qc
  have htq:ls2.take (i+1)=ls2.take i++[y88]:=by rw[List.take_add_one,hi88];rfl
  have hti:ls2.take i=ls.take i:=by have:=congrArg (fun l=>l.take i) htk;simpa [List.take_take,Nat.min_eq_left]using this
  exact⟨_,Qc,i+1,ls2,kl2,Al2,(rows++[row]),_,_,ks92,A92,ks81,A81,rfl,(K.sub rfl),(B.step M).less (.cons _ (.cons _ (.refl _))),(hm2.whole Qc),(by rw[List.length_append,hrl];rfl),hi2,hAl2,(by rw[htq,hti,List.map_append,XZ];exact hA92),hA81⟩
 refine QK ?_;show W _ _ _ _ _ _ _;refine Qb 1 K M fun _ K=>?_;replace B:=B.step M;have hlt:ls.take i=ls:=List.take_of_length_le Qc;rw[hlt]at hAa;have hls:=hm.least wf hcls Qc Qc;obtain⟨Fo,B⟩:=Qk.B6 (L:=((c8,0,[iZ (a.tr:Nat),ka,kr])::(Ac++(Al++(Aa++[]))))) (B:=[]) (B.cast Ux) hAr;replace B:=B.cast (M':=((c8,0,[iZ (a.tr:Nat),ka,kr])::(Ac++(Al++(Aa++[]))))) Ux;have M:=B.mem;obtain⟨v95,st95,ev95,dp2,F2,rfl,hD2,nf2,q95⟩:=Ed (a:=⟨a.tr,ls.map a.ok,rows⟩) B.fresh hls.canon.wf (Mem.Ys (L:=((c8,0,[iZ (a.tr:Nat),ka,kr])::(Ac++(Al++[])))) (B:=[]) (Mem.cast M Ux) hAa) (X3.r (B.at_ (k:=0) rfl));refine p1 K (Qf rfl ev95) fun _ K=>?_;have hle0:=B.le;replace B:=B.quiet q95;have M:=B.mem;refine Qb 4 K M ?_;exact⟨dp2,F2,_,rfl,hls,hD2,fun c hc=>⟨Nat.le_trans hle0 (nf2 c hc).1,(nf2 c hc).2⟩,(B.step M).qt⟩
end
end Go.Proofs.YtiknomepbklibaaGreatDoor
