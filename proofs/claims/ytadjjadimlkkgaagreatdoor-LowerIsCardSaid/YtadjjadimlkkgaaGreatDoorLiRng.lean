/-
  A range over a row from behind, by what holds at each round.
-/
import Derived.Test.YtadjjadimlkkgaaGreatDoorLiSy2
namespace Go.Proofs.YtadjjadimlkkgaaGreatDoor
open Go
set_option linter.unusedVariables false
set_option linter.unusedSimpArgs false

section
variable {P:Program} {G:Env} {N:Nat} {T:Tr AV} {st:St} {Q:Ex→Tr AV→St→Prop}
def Ou(Q:Ex→Tr AV→St→Prop)(T:Tr AV)(J:St→Prop):Ex→Tr AV→St→Prop:=fun y _ st=>match y with
 |.nor=>J st
 |.exit id=>Q (.exit id) T st
 |.ret=>Q .ret T st
theorem Lr{β:Type}{d:Nat}{v:AV}{T:Tr AV}{k:Tr AV→Option β}(h:Nat.ble (d+1) N=true):Yn N (some d) v T k=k (T.set d v):=by
 show QD (Nat.ble (d+1) N) (T.put d v k)=_;rw[h,Tr.put_eq];rfl
theorem Rc{β:Type}{t1 t2:Nat}{i v:AV}{T:Tr AV}{k:Tr AV→Option β}:EF N [t1,t2] i v T k=Yn N (some t1) i T fun T=>Yn N (some t2) v T k:=rfl
theorem Kt{ts te:TypeId}{x:AV}{t1 t2:Nat}{a b:Code}(h1:Nat.ble (t1+1) N=true)(h2:Nat.ble (t2+1) N=true){n:Nat}(J:Nat→St→Prop)
  (hround: ∀i st,i<n→J (i+1) st→ ∃s q v,Jd P ts x st.h.get=some s∧J5 P ts s (.int .i64 (Int.ofNat i))=some q∧Jd P te q st.h.get=some v∧W P G N a (fun e T' st'=>e=.nor∧W P G N b (Ou Q T (J i)) T' st') ((T.set t1 (.int .i64 (Int.ofNat i))).set t2 v) st)
  (hend: ∀st,J 0 st→Q .nor T st): ∀i st,i≤n→J i st→ ∃L m e st',Z7 P N ts te x [t1,t2] (codeF P G (Jn P G L m) N L a) (codeF P G (Jn P G L m) N L b) T i st=some (e,T,st')∧Q e T st':=by
 intro i
 induction i with
 |zero=>intro st _ hJ;exact⟨0,0,.nor,st,rfl,hend st hJ⟩
 |succ i ih=>
  intro st hi hJ;obtain⟨s,q,v,e1,e2,e3,L,m,ex,T1,st1,h3,rfl,L',m',ey,T2,st2,h4,h5⟩:=hround i st hi hJ
  have key: ∀L0 m0,L≤L0→m≤m0→L'≤L0→m'≤m0→Z7 P N ts te x [t1,t2] (codeF P G (Jn P G L0 m0) N L0 a) (codeF P G (Jn P G L0 m0) N L0 b) T (i+1) st=
    Ex.rec (tl (Z7 P N ts te x [t1,t2] (codeF P G (Jn P G L0 m0) N L0 a) (codeF P G (Jn P G L0 m0) N L0 b) T i st2)) (fun id=>some (.exit id,T,st2)) (some (.ret,T,st2)) ey:=by
   intro L0 m0 hL hm hL' hm'
   show(ob (Jd P ts x st.h.get) fun s=>ob (J5 P ts s (.int .i64 (Int.ofNat i))) fun q=>ob (Jd P te q st.h.get) fun v=>
    EF N [t1,t2] (.int .i64 (Int.ofNat i)) v T fun T1=>ob (codeF P G (Jn P G L0 m0) N L0 a T1 st) fun r=>Ex.rec (ob (codeF P G (Jn P G L0 m0) N L0 b r.2.1 r.2.2) fun q=>Ex.rec (tl (Z7 P N ts te x [t1,t2] (codeF P G (Jn P G L0 m0) N L0 a) (codeF P G (Jn P G L0 m0) N L0 b) T i q.2.2)) (fun id=>some (.exit id,T,q.2.2)) (some (.ret,T,q.2.2)) q.1) (fun _=>none) none r.1)=_
   rw[e1,Qk,e2,Qk,e3,Qk];rw[Rc,Lr h1,Lr h2,Yg hL hm h3,Qk];show(ob (codeF P G (Jn P G L0 m0) N L0 b T1 st1) _)=_;rw[Yg hL' hm' h4,Qk]
  cases ey with
  |nor=>
   obtain⟨L2,m2,e,st3,h6,h7⟩:=ih st2 (by omega) h5;refine⟨max (max L L') L2,max (max m m') m2,e,st3,?_,h7⟩;rw[key _ _ (by omega) (by omega) (by omega) (by omega)];exact Kl (fun T st r h=>Yg (by omega) (by omega) h) (fun T st r h=>Yg (by omega) (by omega) h) i st2 _ h6
  |exit id=>exact⟨max L L',max m m',_,st2,key _ _ (by omega) (by omega) (by omega) (by omega),h5⟩
  |ret=>exact⟨max L L',max m m',_,st2,key _ _ (by omega) (by omega) (by omega) (by omega),h5⟩
theorem CB{g:Operand}{ps:Array Tmp}{t1 t2:Nat}{a b:Code}{f:FuncId}{x s0:AV}{ts te:TypeId}{n:Nat}(hp:Qi (JY a) (JY b) false=true)(hps:ps.toList=[t1,t2])(h1:Nat.ble (t1+1) N=true)(h2:Nat.ble (t2+1) N=true)
  (hg:QB G T g=some (.fn f [] [x])) (hb:G.b f=some (ts,te)) (hs:Jd P ts x st.h.get=some s0) (hl:WM P [ts] s0=some (.int .i64 ((n:Nat):Int))) (hn:n≤UX) (J:Nat→St→Prop) (h0:J n st)
  (hround: ∀i st,i<n→J (i+1) st→ ∃s q v,Jd P ts x st.h.get=some s∧J5 P ts s (.int .i64 (Int.ofNat i))=some q∧Jd P te q st.h.get=some v∧W P G N a (fun e T' st'=>e=.nor∧W P G N b (Ou Q T (J i)) T' st') ((T.set t1 (.int .i64 (Int.ofNat i))).set t2 v) st)
  (hend: ∀st,J 0 st→Q .nor T st):W P G N (.rangeFunc g ps a b) Q T st:=by
 obtain⟨L,m,e,st',h3,h4⟩:=Kt (P:=P) (G:=G) (Q:=Q) (ts:=ts) (te:=te) (x:=x) h1 h2 J hround hend n st (Nat.le_refl _) h0;refine⟨L,m,e,T,st',?_,h4⟩;show X8 P G N g ps.toList (Qi (JY a) (JY b) false) (codeF P G (Jn P G L m) N L a) (codeF P G (Jn P G L m) N L b) T st=_;unfold X8;rw[hp,Jj,hg,Qk];simp only[hb,Qk,hs,hl];have ht:Lb ((n:Nat):Int)=some n:=La n;rw[ht,Qk,Nat.ble_eq_true_of_le hn,Jj,hps];exact h3
theorem qZ{t:TypeId}{c m off len z z':Nat}{j:Nat}(he:JI P t=some z)(hj:j<len):J5 P t (.sl c m off len z') (.int .i64 (Int.ofNat j))=some (.ptr c m (off+j *z)):=by
 show(ob (Lb (j:Int)) fun i=>QD (Nat.ble (i+1) len) (ob (JI P t) fun z=>JW (off+i *z) fun o=>some (AV.ptr c m o)))=_;show(QD (Nat.ble (j+1) len) (ob (JI P t) fun z=>JW (off+j *z) fun o=>some (AV.ptr c m o)))=_;rw[Nat.ble_eq_true_of_le hj,he];show(JW (off+j *z) fun o=>some (AV.ptr c m o))=_;rw[QX]
theorem qX{t e:TypeId}{u:AV}{n:Nat}(ht:P.underlying t=some (.slice e))(hn:Yj u=some n):WM P [t] u=some (.int .i64 (n:Int)):=by
 cases u<;>simp only[Yj]at hn<;>first|(cases hn;done)|skip
 all_goals
  injection hn with hn
  subst hn;unfold WM;simp only[ht];rfl
theorem O5{K0:List (Nat×AV)}{g:Operand}{ps:Array Tmp}{t1 t2 z c:Nat}{a b:Code}{f:FuncId}{ks:AV}{ts te e:TypeId}{n:Nat}(hK:Jf K0 T)(hg:Jy G K0 g=some (.fn f [] [.ptr c 0 0]))(hp:Qi (JY a) (JY b) false=true)(hps:ps.toList=[t1,t2])(h1:Nat.ble (t1+1) N=true)(h2:Nat.ble (t2+1) N=true)
  (hb:G.b f=some (ts,te)) (hs:Jd P ts (.ptr c 0 0) st.h.get=some ks) (ht:P.underlying ts=some (.slice e)) (he:JI P ts=some z) (hte:tk P te=.agg z) (hl:Yj ks=some n) (hn:(n:Int)≤9223372036854775807) (J:Nat→St→Prop) (h0:J n st)
  (hround: ∀i st1,i<n→J (i+1) st1→Jd P ts (.ptr c 0 0) st1.h.get=some ks∧ ∃X ls cs,VK st1.h.get X z ls ks∧ls[i]? =some cs∧ ∀T1,Jf ((t2,.agg cs)::(t1,.int .i64 ((i:Nat):Int))::K0) T1→W P G N a (fun e T' st'=>e=.nor∧W P G N b (Ou Q T (J i)) T' st') T1 st1)
  (hend: ∀st1,J 0 st1→Q .nor T st1):W P G N (.rangeFunc g ps a b) Q T st:=by
 refine CB (f:=f) (x:=.ptr c 0 0) (s0:=ks) hp hps h1 h2 (hK.QB hg) hb hs (qX ht hl) (by have:(UX:Int)=9223372036854775807:=rfl;omega) J h0 (fun i st1 hi hJ=>?_) hend;obtain⟨h3,X,ls,cs,r,h4,h5⟩:=hround i st1 hi hJ;obtain⟨c',m,off,rfl,_,h6,_⟩:=r.load (P:=P) h4;have hi':i<ls.length:=(List.getElem?_eq_some_iff.1 h4).1;exact⟨_,_,_,h3,qZ he hi',h6 te hte,h5 _ ((hK.set t1 _).set t2 _)⟩
end
end Go.Proofs.YtadjjadimlkkgaaGreatDoor
