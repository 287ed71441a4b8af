/-
  Kinds, plainly: what a name is in a scope, a term's kind, a formula's first error, a program's.
-/
import Derived.Test.YtadjjadimlkkgaaGreatDoorKtTrE
set_option linter.unusedSimpArgs false
set_option linter.unusedVariables false
section
namespace Go.Proofs.YtadjjadimlkkgaaGreatDoor
open Go Go.RowKit

def Nd.place:Nd→Int
 |.mk _ _ _ a _=>a
def U8(l:List Dc)(s:List Nat):Int:=l.foldl (fun r d=>if d.name=s then d.order else r) (-1)
theorem GM(l:List Dc)(d:Dc)(s:List Nat):U8 (l++[d]) s=if d.name=s then d.order else U8 l s:=by
 unfold U8;rw[List.foldl_append];rfl
theorem AF{l:List Dc}{i:Nat}{d:Dc}(h:l[i]? =some d)(s:List Nat):U8 (l.take (i+1)) s=if d.name=s then d.order else U8 (l.take i) s:=by
 have:l.take (i+1)=l.take i++[d]:=by rw[List.take_add_one,h];rfl
 rw[this,GM]
mutual
def Q0 (sc : List Dc) : Nd → Int × Int × Int
  | .mk op name _ a kids =>
    if op = [118, 97, 114] then (if U8 sc name < 0 then (0, a, 5) else (U8 sc name, 0, 0))
    else if op = [110, 117, 109] then (1, 0, 0)
    else match Zn sc (decide (op = [112, 108, 117, 115])) a (if op = [112, 108, 117, 115] ∨ op = [115, 101, 116] then 1 else 2) kids with
      | some r => (0, r.1, r.2)
      | none => (if op = [112, 108, 117, 115] then 1 else 2, 0, 0)
def Zn (sc : List Dc) (pl : Bool) (a want : Int) : List Nd → Option (Int × Int)
  | [] => none
  | k :: l => if (Q0 sc k).2.2 ≠ 0 then some ((Q0 sc k).2.1, (Q0 sc k).2.2)
    else if (Q0 sc k).1 ≠ want then some (if pl then a else k.place, 7)
    else Zn sc pl a want l
end
def U2(op:List Nat):Int×Int:=if op=[108,116]∨op=[108,101]then(1,1)else if op=[105,110]∨op=[110,111,116,105,110]then(1,2)else(2,2)
def UQ(sc:List Dc)(op:List Nat)(a:Int)(k j:Nd):Int×Int:=
 if(Q0 sc k).2.2≠0 then((Q0 sc k).2.1,(Q0 sc k).2.2)
 else if(Q0 sc j).2.2≠0 then((Q0 sc j).2.1,(Q0 sc j).2.2)
 else if op=[101,113]∨op=[110,101]then(if(Q0 sc k).1=(Q0 sc j).1∧0<(Q0 sc k).1 then(0,0)else(a,7))
 else if((Q0 sc k).1,(Q0 sc j).1)=U2 op then(0,0)else(a,7)
def VX(sc:List Dc)(a:Int):List Dc→List Nd→Int×Int
 |d::ds,k::l=>if(Q0 sc k).2.2≠0 then((Q0 sc k).2.1,(Q0 sc k).2.2)else if(Q0 sc k).1≠d.order then(a,7)else VX sc a ds l
 |_,_=>(0,0)
def Z0(ps:List Pd)(sc:List Dc)(name:List Nat)(a:Int)(kids:List Nd):Int×Int:=
 match ps.find? (fun p=>decide (p.name=name))with
 |none=>(a,5)
 |some p=>if p.params.length≠kids.length then(a,7)else VX sc a p.params kids
def UE(op:List Nat):Bool:=oneOf op [[101,113],[110,101],[108,116],[108,101],[105,110],[110,111,116,105,110],[115,117,98]]
mutual
def UJ(ps:List Pd):Nd→List Dc→Int×Int
 |.mk op name n a kids,sc=>
  if op=[105,115]then(if U8 sc name= -1 then(a,5)else if U8 sc name=0 then(0,0)else(a,7))
  else if op=[99,97,108,108]then Z0 ps sc name a kids
  else if UE op then(match kids with
   |[k,j]=>UQ sc op a k j
   |_=>(0,0))
  else Ku ps kids (if op=[101,120]∨op=[97,108,108]then sc++[⟨name,n,0⟩]else sc)
def Ku(ps:List Pd):List Nd→List Dc→Int×Int
 |[],_=>(0,0)
 |k::l,sc=>if(UJ ps k sc).2≠0 then UJ ps k sc else Ku ps l sc
end
def J2:List Dc→List Dc→Option Int
 |_,[]=>none
 |pre,d::l=>if 0≤U8 pre d.name then some d.at_ else J2 (pre++[d]) l
def Ef:List Pd→List Pd→Option (Int×Int)
 |_,[]=>none
 |pre,p::l=>if pre.any (fun q=>decide (q.name=p.name))then some (p.at_,6)else match J2 [] p.params with
  |some a=>some (a,6)
  |none=>if(UJ pre p.body p.params).2≠0 then some (UJ pre p.body p.params)else Ef (pre++[p]) l
def Zk(p:Pg):Int×Int:=
 if XS p then match J2 [] p.decls with
  |some a=>(a,6)
  |none=>match Ef [] p.preds with
   |some r=>r
   |none=>UJ p.preds p.main p.decls
 else(0,1)
theorem Vq{sc:List Dc}{pl:Bool}{a want:Int}{l:List Nd}{i:Nat}{k:Nd}(h:l[i]? =some k):Zn sc pl a want (l.drop i)=if(Q0 sc k).2.2≠0 then some ((Q0 sc k).2.1,(Q0 sc k).2.2)else if(Q0 sc k).1≠want then some (if pl then a else k.place,7)else Zn sc pl a want (l.drop (i+1)):=by
 obtain⟨h1,h2⟩:=List.getElem?_eq_some_iff.1 h;rw[List.drop_eq_getElem_cons h1,Zn,h2]
theorem Fq{ps:List Pd}{sc:List Dc}{l:List Nd}{i:Nat}{k:Nd}(h:l[i]? =some k):Ku ps (l.drop i) sc=if(UJ ps k sc).2≠0 then UJ ps k sc else Ku ps (l.drop (i+1)) sc:=by
 obtain⟨h1,h2⟩:=List.getElem?_eq_some_iff.1 h;rw[List.drop_eq_getElem_cons h1,Ku,h2]
theorem Vs{sc:List Dc}{a:Int}{ds:List Dc}{l:List Nd}{i:Nat}{d:Dc}{k:Nd}(hd:ds[i]? =some d)(h:l[i]? =some k):VX sc a (ds.drop i) (l.drop i)=if(Q0 sc k).2.2≠0 then((Q0 sc k).2.1,(Q0 sc k).2.2)else if(Q0 sc k).1≠d.order then(a,7)else VX sc a (ds.drop (i+1)) (l.drop (i+1)):=by
 obtain⟨h1,h2⟩:=List.getElem?_eq_some_iff.1 h;obtain⟨h3,h4⟩:=List.getElem?_eq_some_iff.1 hd;rw[List.drop_eq_getElem_cons h1,List.drop_eq_getElem_cons h3,VX,h2,h4]
theorem WS{l:List Dc}{i:Nat}{d:Dc}(h:l[i]? =some d):J2 (l.take i) (l.drop i)=if 0≤U8 (l.take i) d.name then some d.at_ else J2 (l.take (i+1)) (l.drop (i+1)):=by
 obtain⟨h1,h2⟩:=List.getElem?_eq_some_iff.1 h
 have:l.take (i+1)=l.take i++[d]:=by rw[List.take_add_one,h];rfl
 rw[List.drop_eq_getElem_cons h1,J2,h2,this]
theorem P2{l:List Pd}{i:Nat}{p:Pd}(h:l[i]? =some p):Ef (l.take i) (l.drop i)=if(l.take i).any (fun q=>decide (q.name=p.name))then some (p.at_,6)else match J2 [] p.params with
  |some a=>some (a,6)
  |none=>if(UJ (l.take i) p.body p.params).2≠0 then some (UJ (l.take i) p.body p.params)else Ef (l.take (i+1)) (l.drop (i+1)):=by
 obtain⟨h1,h2⟩:=List.getElem?_eq_some_iff.1 h
 have:l.take (i+1)=l.take i++[p]:=by rw[List.take_add_one,h];rfl
 rw[List.drop_eq_getElem_cons h1,Ef,h2,this]
end Go.Proofs.YtadjjadimlkkgaaGreatDoor
end
section
namespace Go.Proofs.YtadjjadimlkkgaaGreatDoor
open Go

section
variable {P:Program} {G:Env} {N:Nat} {T:Tr AV} {st:St} {Q:Ex→Tr AV→St→Prop}
def CY(Q:Ex→Tr AV→St→Prop)(T:Tr AV)(J:St→Prop):Ex→Tr AV→St→Prop:=fun y _ st=>match y with
 |.nor=>J st
 |.exit id=>Q (.exit id) T st
 |.ret=>Q .ret T st
theorem NP{β:Type}{d:Nat}{v:AV}{T:Tr AV}{k:Tr AV→Option β}(h:Nat.ble (d+1) N=true):Ee N (some d) v T k=k (T.set d v):=by
 show Jt (Nat.ble (d+1) N) (T.put d v k)=_;rw[h,Tr.put_eq];rfl
theorem R1{β:Type}{t1 t2:Nat}{i v:AV}{T:Tr AV}{k:Tr AV→Option β}:Io N [t1,t2] i v T k=Ee N (some t1) i T fun T=>Ee N (some t2) v T k:=rfl
theorem Nq{ts te:TypeId}{x:AV}{t1 t2:Nat}{a b:Code}(h1:Nat.ble (t1+1) N=true)(h2:Nat.ble (t2+1) N=true){n:Nat}(J:Nat→St→Prop)
  (hround: ∀i st,i<n→J (i+1) st→ ∃s q v,JW P ts x st.h.get=some s∧UR P ts s (.int .i64 (Int.ofNat i))=some q∧JW P te q st.h.get=some v∧W P G N a (fun e T' st'=>e=.nor∧W P G N b (CY Q T (J i)) T' st') ((T.set t1 (.int .i64 (Int.ofNat i))).set t2 v) st)
  (hend: ∀st,J 0 st→Q .nor T st): ∀i st,i≤n→J i st→ ∃L m e st',WK P N ts te x [t1,t2] (codeF P G (Ui P G L m) N L a) (codeF P G (Ui P G L m) N L b) T i st=some (e,T,st')∧Q e T st':=by
 intro i
 induction i with
 |zero=>intro st _ hJ;exact⟨0,0,.nor,st,rfl,hend st hJ⟩
 |succ i ih=>
  intro st hi hJ;obtain⟨s,q,v,e1,e2,e3,L,m,ex,T1,st1,h3,rfl,L',m',ey,T2,st2,h4,h5⟩:=hround i st hi hJ
  have key: ∀L0 m0,L≤L0→m≤m0→L'≤L0→m'≤m0→WK P N ts te x [t1,t2] (codeF P G (Ui P G L0 m0) N L0 a) (codeF P G (Ui P G L0 m0) N L0 b) T (i+1) st=
    Ex.rec (tl (WK P N ts te x [t1,t2] (codeF P G (Ui P G L0 m0) N L0 a) (codeF P G (Ui P G L0 m0) N L0 b) T i st2)) (fun id=>some (.exit id,T,st2)) (some (.ret,T,st2)) ey:=by
   intro L0 m0 hL hm hL' hm'
   show(ob (JW P ts x st.h.get) fun s=>ob (UR P ts s (.int .i64 (Int.ofNat i))) fun q=>ob (JW P te q st.h.get) fun v=>
    Io N [t1,t2] (.int .i64 (Int.ofNat i)) v T fun T1=>ob (codeF P G (Ui P G L0 m0) N L0 a T1 st) fun r=>Ex.rec (ob (codeF P G (Ui P G L0 m0) N L0 b r.2.1 r.2.2) fun q=>Ex.rec (tl (WK P N ts te x [t1,t2] (codeF P G (Ui P G L0 m0) N L0 a) (codeF P G (Ui P G L0 m0) N L0 b) T i q.2.2)) (fun id=>some (.exit id,T,q.2.2)) (some (.ret,T,q.2.2)) q.1) (fun _=>none) none r.1)=_
   rw[e1,QC,e2,QC,e3,QC];rw[R1,NP h1,NP h2,Z7 hL hm h3,QC];show(ob (codeF P G (Ui P G L0 m0) N L0 b T1 st1) _)=_;rw[Z7 hL' hm' h4,QC]
  cases ey with
  |nor=>
   obtain⟨L2,m2,e,st3,h6,h7⟩:=ih st2 (by omega) h5;refine⟨max (max L L') L2,max (max m m') m2,e,st3,?_,h7⟩;rw[key _ _ (by omega) (by omega) (by omega) (by omega)];exact Nc (fun T st r h=>Z7 (by omega) (by omega) h) (fun T st r h=>Z7 (by omega) (by omega) h) i st2 _ h6
  |exit id=>exact⟨max L L',max m m',_,st2,key _ _ (by omega) (by omega) (by omega) (by omega),h5⟩
  |ret=>exact⟨max L L',max m m',_,st2,key _ _ (by omega) (by omega) (by omega) (by omega),h5⟩
theorem Mo{g:Operand}{ps:Array Tmp}{t1 t2:Nat}{a b:Code}{f:FuncId}{x s0:AV}{ts te:TypeId}{n:Nat}(hp:Qo (Zu a) (Zu b) false=true)(hps:ps.toList=[t1,t2])(h1:Nat.ble (t1+1) N=true)(h2:Nat.ble (t2+1) N=true)
  (hg:QN G T g=some (.fn f [] [x])) (hb:G.b f=some (ts,te)) (hs:JW P ts x st.h.get=some s0) (hl:HQ P [ts] s0=some (.int .i64 ((n:Nat):Int))) (hn:n≤Xq) (J:Nat→St→Prop) (h0:J n st)
  (hround: ∀i st,i<n→J (i+1) st→ ∃s q v,JW P ts x st.h.get=some s∧UR P ts s (.int .i64 (Int.ofNat i))=some q∧JW P te q st.h.get=some v∧W P G N a (fun e T' st'=>e=.nor∧W P G N b (CY Q T (J i)) T' st') ((T.set t1 (.int .i64 (Int.ofNat i))).set t2 v) st)
  (hend: ∀st,J 0 st→Q .nor T st):W P G N (.rangeFunc g ps a b) Q T st:=by
 obtain⟨L,m,e,st',h3,h4⟩:=Nq (P:=P) (G:=G) (Q:=Q) (ts:=ts) (te:=te) (x:=x) h1 h2 J hround hend n st (Nat.le_refl _) h0;refine⟨L,m,e,T,st',?_,h4⟩;show AA P G N g ps.toList (Qo (Zu a) (Zu b) false) (codeF P G (Ui P G L m) N L a) (codeF P G (Ui P G L m) N L b) T st=_;unfold AA;rw[hp,Uj,hg,QC];simp only[hb,QC,hs,hl];have ht:KQ ((n:Nat):Int)=some n:=Pc n;rw[ht,QC,Nat.ble_eq_true_of_le hn,Uj,hps];exact h3
theorem uB{t:TypeId}{c m off len z z':Nat}{j:Nat}(he:Yt P t=some z)(hj:j<len):UR P t (.sl c m off len z') (.int .i64 (Int.ofNat j))=some (.ptr c m (off+j *z)):=by
 show(ob (KQ (j:Int)) fun i=>Jt (Nat.ble (i+1) len) (ob (Yt P t) fun z=>Yp (off+i *z) fun o=>some (AV.ptr c m o)))=_;show(Jt (Nat.ble (j+1) len) (ob (Yt P t) fun z=>Yp (off+j *z) fun o=>some (AV.ptr c m o)))=_;rw[Nat.ble_eq_true_of_le hj,he];show(Yp (off+j *z) fun o=>some (AV.ptr c m o))=_;rw[JP]
theorem uA{t e:TypeId}{u:AV}{n:Nat}(ht:P.underlying t=some (.slice e))(hn:V5 u=some n):HQ P [t] u=some (.int .i64 (n:Int)):=by
 cases u<;>simp only[V5]at hn<;>first|(cases hn;done)|skip
 all_goals
  injection hn with hn
  subst hn;unfold HQ;simp only[ht];rfl
theorem RC{K0:List (Nat×AV)}{g:Operand}{ps:Array Tmp}{t1 t2 z c:Nat}{a b:Code}{f:FuncId}{ks:AV}{ts te e:TypeId}{n:Nat}(hK:Jk K0 T)(hg:Uf G K0 g=some (.fn f [] [.ptr c 0 0]))(hp:Qo (Zu a) (Zu b) false=true)(hps:ps.toList=[t1,t2])(h1:Nat.ble (t1+1) N=true)(h2:Nat.ble (t2+1) N=true)
  (hb:G.b f=some (ts,te)) (hs:JW P ts (.ptr c 0 0) st.h.get=some ks) (ht:P.underlying ts=some (.slice e)) (he:Yt P ts=some z) (hte:tk P te=.agg z) (hl:V5 ks=some n) (hn:(n:Int)≤9223372036854775807) (J:Nat→St→Prop) (h0:J n st)
  (hround: ∀i st1,i<n→J (i+1) st1→JW P ts (.ptr c 0 0) st1.h.get=some ks∧ ∃X ls cs,J8 st1.h.get X z ls ks∧ls[i]? =some cs∧ ∀T1,Jk ((t2,.agg cs)::(t1,.int .i64 ((i:Nat):Int))::K0) T1→W P G N a (fun e T' st'=>e=.nor∧W P G N b (CY Q T (J i)) T' st') T1 st1)
  (hend: ∀st1,J 0 st1→Q .nor T st1):W P G N (.rangeFunc g ps a b) Q T st:=by
 refine Mo (f:=f) (x:=.ptr c 0 0) (s0:=ks) hp hps h1 h2 (hK.QN hg) hb hs (uA ht hl) (by have:(Xq:Int)=9223372036854775807:=rfl;omega) J h0 (fun i st1 hi hJ=>?_) hend;obtain⟨h3,X,ls,cs,r,h4,h5⟩:=hround i st1 hi hJ;obtain⟨c',m,off,rfl,_,h6,_⟩:=r.load (P:=P) h4;have hi':i<ls.length:=(List.getElem?_eq_some_iff.1 h4).1;exact⟨_,_,_,h3,uB he hi',h6 te hte,h5 _ ((hK.set t1 _).set t2 _)⟩
end
end Go.Proofs.YtadjjadimlkkgaaGreatDoor
end
