/-
  utf8.RuneCountInString: how many runes a text has.
-/
import Derived.Test.YtadjjadimlkkgaaGreatDoorMnSeg
namespace Go.Proofs.YtadjjadimlkkgaaGreatDoor
open Go Go.RowKit
set_option linter.unusedVariables false
set_option linter.unusedSimpArgs false
set_option maxRecDepth 100000

section
variable {P:Program} {G:Env} {K:List (Nat×AV)} {st:St}
theorem Tq{t:TypeId}{x:Operand}{l:List Nat}(ht:P.underlying t=some .string)(hx:Jq G K x=some (.str l)):Zo P G K (.range t x) st (.ptr st.n 0 0) ⟨st.n+1,st.h.set st.n (.iter l l 0)⟩:=.of fun T hT c d ty pos af g=>by
 show(ob (QF G T x) fun x=>Kf P t x st)=_;rw[hT.QF hx,Qh];unfold Kf;simp only[ht];rw[Aa]
theorem Tu{x:Operand}{c pos:Nat}{s:List Nat}(hx:Jq G K x=some (.ptr c 0 0))(hc:st.h.get c=some (.iter s [] pos)):Zo P G K (.next x true) st (.tup [.bool false]) st:=.of fun T hT cc d ty p af g=>by
 show(ob (QF G T x) fun x=>Ks x st)=_;rw[hT.QF hx,Qh];unfold Ks;simp only[Nat.beq_refl,QR,hc,Qh]
theorem Tt{x:Operand}{c pos b:Nat}{s t:List Nat}(hx:Jq G K x=some (.ptr c 0 0))(hc:st.h.get c=some (.iter s (b::t) pos)):Zo P G K (.next x true) st (.tup [.bool true,.int .i64 (Int.ofNat pos),.int .i32 (Int.ofNat (Fb (b::t)).1)]) ⟨st.n,st.h.set c (.iter s ((b::t).drop (Fb (b::t)).2) (pos+(Fb (b::t)).2))⟩:=.of fun T hT cc d ty p af g=>by
 show(ob (QF G T x) fun x=>Ks x st)=_;rw[hT.QF hx,Qh];unfold Ks;simp only[Nat.beq_refl,QR,hc,Qh,QQ,JD,Ya,J3]
end
noncomputable def Wd:Nat→List Nat→Nat
 |0,_=>0
 |_+1,[]=>0
 |f+1,b::t=>1+Wd f ((b::t).drop (Fb (b::t)).2)
noncomputable def UL(s:List Nat):Int:=((Wd s.length s:Nat):Int)
theorem MW{r:List Nat}(hr:Bytes r)(h:r≠[]):1≤(Fb r).2:=by
 have hp:0<r.length:=List.length_pos_iff.2 h;have h1:=Po hr 0 hp;rw[List.drop_zero]at h1;rw[h1];exact(XZ (bytesOf r) 0 (by rw[JO];exact hp)).1
theorem WV{r:List Nat}(hr:Bytes r)(n:Nat):Bytes (r.drop n):=fun x hx=>hr x (List.mem_of_mem_drop hx)
theorem Oo: ∀(f:Nat) (r:List Nat),Bytes r→r.length≤f→Wd f r=Wd r.length r:=by
 intro f
 induction f using Nat.strongRecOn with
 |_ f ih=>
  intro r hr hf
  cases r with
  |nil=>cases f<;>rfl
  |cons b t=>
   cases f with
   |zero=>simp at hf
   |succ f=>
    have hw:=MW hr (by simp);show 1+Wd f _=1+Wd t.length _
    have hl:((b::t).drop (Fb (b::t)).2).length≤t.length:=by rw[List.length_drop];simp;omega
    simp only[List.length_cons]at hf;rw[ih f (by omega) _ (WV hr _) (by omega)]
    by_cases htf:t.length<f+1
    ·rw[ih t.length htf _ (WV hr _) hl]
    ·omega
theorem C5{b:Nat}{t:List Nat}(hr:Bytes (b::t)):Wd (b::t).length (b::t)=1+Wd ((b::t).drop (Fb (b::t)).2).length ((b::t).drop (Fb (b::t)).2):=by
 have hw:=MW hr (by simp);show 1+Wd t.length _=_;rw[Oo t.length _ (WV hr _) (by rw[List.length_drop];simp;omega)]
theorem G8{st:St}(hf:Qu st)(s:List Nat)(hs:Bytes s)(hl:s.length≤1000000000): ∃v st',Ev Tryz.prog QU 257 [.str s] st v st'∧v=.int .i64 (UL s)∧Qt st st':=by
 refine uS rfl Tryz.func257 rfl Tryz.ntmps257 rfl (by decide) (by simp) fun T hT=>?_;have K:QT [(0,_)] T:=.cons (hT 0) .nil;refine Qn<|Qb<|o1 K (Q0 rfl) rfl fun _ K=>Qy ?_;show W _ _ _ _ _ _ _;refine Qn<|Qn<|Qb<|o1 K (Qd rfl) rfl fun _ K=>o1 K (Tq P6 rfl) rfl fun _ K=>Qy ?_;show W _ _ _ _ _ _ _;refine Uq ?_;refine JN (fun mm T st9=> ∃(n:Nat) (r:List Nat) (pos:Nat),mm=r.length∧QT [(2,.int .i64 ((n:Nat):Int)),(4,.ptr st.n 0 0)] T∧Qu st9∧st.n+1=st9.n∧(∀c,c<st.n→st9.h.get c=st.h.get c)∧st9.h.get st.n=some (.iter s r pos)∧Bytes r∧n+Wd r.length r=Wd s.length s∧n+r.length≤s.length) (fun mm T st9 hI=>?_) _ _ _ ⟨0,s,0,rfl,.cons (K _ _ rfl) (.cons (K _ _ rfl) .nil),?_,rfl,?_,?_,hs,by omega,by omega⟩
 ·obtain⟨n,r,pos,rfl,K,hf9,hn9,hold,hit,hbr,hcnt,hlen⟩:=hI
  cases r with
  |nil=>
   refine Qn<|Qb<|o1 K (Tu rfl hit) rfl fun _ K=>o1 K (WG rfl rfl) rfl fun _ K=>Qy ?_;show W _ _ _ _ _ _ _;refine Qn ?_;refine Qm (t:=false) (K.QF rfl) (fun h=>by cases h) (fun _=>?_);refine J7 ?_;show W _ _ _ _ _ _ _;refine Qn<|Qb<|o1 K (Qd rfl) rfl fun _ K=>o1 K (Q0 rfl) rfl fun _ K=>Qy ?_;show W _ _ _ _ _ _ _;refine Qe ?_;refine⟨.inr rfl,_,Fy (Js K rfl),?_,hf9,by omega,fun c hc=>hold c hc⟩
   have:n=Wd s.length s:=by simpa [Wd]using hcnt
   rw[UL,←this]
  |cons b t=>
   have hw:=MW hbr (by simp);rw[C5 hbr]at hcnt
   have hln:((b::t).drop (Fb (b::t)).2).length+1≤(b::t).length:=by rw[List.length_drop];simp;omega
   refine Qn<|Qb<|o1 K (Tt rfl hit) rfl fun _ K=>o1 K (WG rfl rfl) rfl fun _ K=>Qy ?_;show W _ _ _ _ _ _ _;refine Qn ?_;refine Qm (t:=true) (K.QF rfl) (fun _=>?_) (fun h=>by cases h);refine Q8 ?_;show W _ _ _ _ _ _ _;refine Uq<|Qb<|o1 K (Qd rfl) rfl fun _ K=>o1 K (Jf rfl rfl (by omega) (by omega)) rfl fun _ K=>o1 K (Q0 rfl) rfl fun _ K=>Qy ?_;refine⟨_,Nat.lt_of_lt_of_le (Nat.lt_succ_self _) hln,n+1,(b::t).drop (Fb (b::t)).2,pos+(Fb (b::t)).2,rfl,.cons (K _ _ rfl) (.cons (K _ _ rfl) .nil),?_,hn9,fun c hc=>?_,?_,WV hbr _,by omega,by omega⟩
   ·intro c hc;have hc:st9.n≤c:=hc;show(st9.h.set st.n _).get c=none;rw[Tr.YO,if_neg (by omega)];exact hf9 c hc
   ·show(st9.h.set st.n _).get c=_;rw[Tr.YO,if_neg (by omega)];exact hold c hc
   ·show(st9.h.set st.n _).get st.n=_;rw[Tr.YO,if_pos rfl]
 ·intro c hc;have hc:st.n+1≤c:=hc;show(st.h.set st.n _).get c=none;rw[Tr.YO,if_neg (by omega)];exact hf c (by omega)
 ·intro c hc;show(st.h.set st.n _).get c=_;rw[Tr.YO,if_neg (by omega)]
 ·show(st.h.set st.n _).get st.n=_;rw[Tr.YO,if_pos rfl]
end Go.Proofs.YtadjjadimlkkgaaGreatDoor
