/-
  Kinds, plainly: what a name is in a scope, a term's kind, a formula's first error, a program's.
-/
import Derived.Test.YtadjjadimlkkgaaGreatDoorMnTrE
set_option linter.unnecessarySimpa false
set_option linter.unusedSimpArgs false
set_option linter.unusedVariables false
section
namespace Go.Proofs.YtadjjadimlkkgaaGreatDoor
open Go Go.RowKit

def Nd.place:Nd→Int
 |.mk _ _ _ a _=>a
def Je(l:List Dc)(s:List Nat):Int:=l.foldl (fun r d=>if d.name=s then d.order else r) (-1)
theorem Z5(l:List Dc)(d:Dc)(s:List Nat):Je (l++[d]) s=if d.name=s then d.order else Je l s:=by
 unfold Je;rw[List.foldl_append];rfl
theorem Ia{l:List Dc}{i:Nat}{d:Dc}(h:l[i]? =some d)(s:List Nat):Je (l.take (i+1)) s=if d.name=s then d.order else Je (l.take i) s:=by
 have:l.take (i+1)=l.take i++[d]:=by rw[List.take_add_one,h];rfl
 rw[this,Z5]
mutual
def Qz (sc : List Dc) : Nd → Int × Int × Int
  | .mk op name _ a kids =>
    if op = [118, 97, 114] then (if Je sc name < 0 then (0, a, 5) else (Je sc name, 0, 0))
    else if op = [110, 117, 109] then (1, 0, 0)
    else match Yl sc (decide (op = [112, 108, 117, 115])) a (if op = [112, 108, 117, 115] ∨ op = [115, 101, 116] then 1 else 2) kids with
      | some r => (0, r.1, r.2)
      | none => (if op = [112, 108, 117, 115] then 1 else 2, 0, 0)
def Yl (sc : List Dc) (pl : Bool) (a want : Int) : List Nd → Option (Int × Int)
  | [] => none
  | k :: l => if (Qz sc k).2.2 ≠ 0 then some ((Qz sc k).2.1, (Qz sc k).2.2)
    else if (Qz sc k).1 ≠ want then some (if pl then a else k.place, 7)
    else Yl sc pl a want l
end
def Uo(op:List Nat):Int×Int:=if op=[108,116]∨op=[108,101]then(1,1)else if op=[105,110]∨op=[110,111,116,105,110]then(1,2)else(2,2)
def JS(sc:List Dc)(op:List Nat)(a:Int)(k j:Nd):Int×Int:=
 if(Qz sc k).2.2≠0 then((Qz sc k).2.1,(Qz sc k).2.2)
 else if(Qz sc j).2.2≠0 then((Qz sc j).2.1,(Qz sc j).2.2)
 else if op=[101,113]∨op=[110,101]then(if(Qz sc k).1=(Qz sc j).1∧0<(Qz sc k).1 then(0,0)else(a,7))
 else if((Qz sc k).1,(Qz sc j).1)=Uo op then(0,0)else(a,7)
def Wv(sc:List Dc)(a:Int):List Dc→List Nd→Int×Int
 |d::ds,k::l=>if(Qz sc k).2.2≠0 then((Qz sc k).2.1,(Qz sc k).2.2)else if(Qz sc k).1≠d.order then(a,7)else Wv sc a ds l
 |_,_=>(0,0)
def Z9(ps:List Pd)(sc:List Dc)(name:List Nat)(a:Int)(kids:List Nd):Int×Int:=
 match ps.find? (fun p=>decide (p.name=name))with
 |none=>(a,5)
 |some p=>if p.params.length≠kids.length then(a,7)else Wv sc a p.params kids
def UY(op:List Nat):Bool:=oneOf op [[101,113],[110,101],[108,116],[108,101],[105,110],[110,111,116,105,110],[115,117,98]]
mutual
def UK(ps:List Pd):Nd→List Dc→Int×Int
 |.mk op name n a kids,sc=>
  if op=[105,115]then(if Je sc name= -1 then(a,5)else if Je sc name=0 then(0,0)else(a,7))
  else if op=[99,97,108,108]then Z9 ps sc name a kids
  else if UY op then(match kids with
   |[k,j]=>JS sc op a k j
   |_=>(0,0))
  else Ld ps kids (if op=[101,120]∨op=[97,108,108]then sc++[⟨name,n,0⟩]else sc)
def Ld(ps:List Pd):List Nd→List Dc→Int×Int
 |[],_=>(0,0)
 |k::l,sc=>if(UK ps k sc).2≠0 then UK ps k sc else Ld ps l sc
end
def Jx:List Dc→List Dc→Option Int
 |_,[]=>none
 |pre,d::l=>if 0≤Je pre d.name then some d.at_ else Jx (pre++[d]) l
def Wf:List Pd→List Pd→Option (Int×Int)
 |_,[]=>none
 |pre,p::l=>if pre.any (fun q=>decide (q.name=p.name))then some (p.at_,6)else match Jx [] p.params with
  |some a=>some (a,6)
  |none=>if(UK pre p.body p.params).2≠0 then some (UK pre p.body p.params)else Wf (pre++[p]) l
def JK(p:Pg):Int×Int:=
 if XD p then match Jx [] p.decls with
  |some a=>(a,6)
  |none=>match Wf [] p.preds with
   |some r=>r
   |none=>UK p.preds p.main p.decls
 else(0,1)
theorem AP{sc:List Dc}{pl:Bool}{a want:Int}{l:List Nd}{i:Nat}{k:Nd}(h:l[i]? =some k):Yl sc pl a want (l.drop i)=if(Qz sc k).2.2≠0 then some ((Qz sc k).2.1,(Qz sc k).2.2)else if(Qz sc k).1≠want then some (if pl then a else k.place,7)else Yl sc pl a want (l.drop (i+1)):=by
 obtain⟨h1,h2⟩:=List.getElem?_eq_some_iff.1 h;rw[List.drop_eq_getElem_cons h1,Yl,h2]
theorem NO{ps:List Pd}{sc:List Dc}{l:List Nd}{i:Nat}{k:Nd}(h:l[i]? =some k):Ld ps (l.drop i) sc=if(UK ps k sc).2≠0 then UK ps k sc else Ld ps (l.drop (i+1)) sc:=by
 obtain⟨h1,h2⟩:=List.getElem?_eq_some_iff.1 h;rw[List.drop_eq_getElem_cons h1,Ld,h2]
theorem Fi{sc:List Dc}{a:Int}{ds:List Dc}{l:List Nd}{i:Nat}{d:Dc}{k:Nd}(hd:ds[i]? =some d)(h:l[i]? =some k):Wv sc a (ds.drop i) (l.drop i)=if(Qz sc k).2.2≠0 then((Qz sc k).2.1,(Qz sc k).2.2)else if(Qz sc k).1≠d.order then(a,7)else Wv sc a (ds.drop (i+1)) (l.drop (i+1)):=by
 obtain⟨h1,h2⟩:=List.getElem?_eq_some_iff.1 h;obtain⟨h3,h4⟩:=List.getElem?_eq_some_iff.1 hd;rw[List.drop_eq_getElem_cons h1,List.drop_eq_getElem_cons h3,Wv,h2,h4]
theorem HW{l:List Dc}{i:Nat}{d:Dc}(h:l[i]? =some d):Jx (l.take i) (l.drop i)=if 0≤Je (l.take i) d.name then some d.at_ else Jx (l.take (i+1)) (l.drop (i+1)):=by
 obtain⟨h1,h2⟩:=List.getElem?_eq_some_iff.1 h
 have:l.take (i+1)=l.take i++[d]:=by rw[List.take_add_one,h];rfl
 rw[List.drop_eq_getElem_cons h1,Jx,h2,this]
theorem PV{l:List Pd}{i:Nat}{p:Pd}(h:l[i]? =some p):Wf (l.take i) (l.drop i)=if(l.take i).any (fun q=>decide (q.name=p.name))then some (p.at_,6)else match Jx [] p.params with
  |some a=>some (a,6)
  |none=>if(UK (l.take i) p.body p.params).2≠0 then some (UK (l.take i) p.body p.params)else Wf (l.take (i+1)) (l.drop (i+1)):=by
 obtain⟨h1,h2⟩:=List.getElem?_eq_some_iff.1 h
 have:l.take (i+1)=l.take i++[p]:=by rw[List.take_add_one,h];rfl
 rw[List.drop_eq_getElem_cons h1,Wf,h2,this]
end Go.Proofs.YtadjjadimlkkgaaGreatDoor
end
section
namespace Go.Proofs.YtadjjadimlkkgaaGreatDoor
open Go

section
variable {P:Program} {G:Env} {N:Nat} {T:Tr AV} {st:St} {Q:Ex→Tr AV→St→Prop}
def D5(Q:Ex→Tr AV→St→Prop)(T:Tr AV)(J:St→Prop):Ex→Tr AV→St→Prop:=fun y _ st=>match y with
 |.nor=>J st
 |.exit id=>Q (.exit id) T st
 |.ret=>Q .ret T st
theorem Nh{β:Type}{d:Nat}{v:AV}{T:Tr AV}{k:Tr AV→Option β}(h:Nat.ble (d+1) N=true):Yt N (some d) v T k=k (T.set d v):=by
 show QD (Nat.ble (d+1) N) (T.put d v k)=_;rw[h,Tr.put_eq];rfl
theorem RX{β:Type}{t1 t2:Nat}{i v:AV}{T:Tr AV}{k:Tr AV→Option β}:AA N [t1,t2] i v T k=Yt N (some t1) i T fun T=>Yt N (some t2) v T k:=rfl
theorem Ls{ts te:TypeId}{x:AV}{t1 t2:Nat}{a b:Code}(h1:Nat.ble (t1+1) N=true)(h2:Nat.ble (t2+1) N=true){n:Nat}(J:Nat→St→Prop)
  (hround: ∀i st,i<n→J (i+1) st→ ∃s q v,QX P ts x st.h.get=some s∧Jy P ts s (.int .i64 (Int.ofNat i))=some q∧QX P te q st.h.get=some v∧W P G N a (fun e T' st'=>e=.nor∧W P G N b (D5 Q T (J i)) T' st') ((T.set t1 (.int .i64 (Int.ofNat i))).set t2 v) st)
  (hend: ∀st,J 0 st→Q .nor T st): ∀i st,i≤n→J i st→ ∃L m e st',Xe P N ts te x [t1,t2] (codeF P G (Jg P G L m) N L a) (codeF P G (Jg P G L m) N L b) T i st=some (e,T,st')∧Q e T st':=by
 intro i
 induction i with
 |zero=>intro st _ hJ;exact⟨0,0,.nor,st,rfl,hend st hJ⟩
 |succ i ih=>
  intro st hi hJ;obtain⟨s,q,v,e1,e2,e3,L,m,ex,T1,st1,h3,rfl,L',m',ey,T2,st2,h4,h5⟩:=hround i st hi hJ
  have key: ∀L0 m0,L≤L0→m≤m0→L'≤L0→m'≤m0→Xe P N ts te x [t1,t2] (codeF P G (Jg P G L0 m0) N L0 a) (codeF P G (Jg P G L0 m0) N L0 b) T (i+1) st=
    Ex.rec (tl (Xe P N ts te x [t1,t2] (codeF P G (Jg P G L0 m0) N L0 a) (codeF P G (Jg P G L0 m0) N L0 b) T i st2)) (fun id=>some (.exit id,T,st2)) (some (.ret,T,st2)) ey:=by
   intro L0 m0 hL hm hL' hm'
   show(ob (QX P ts x st.h.get) fun s=>ob (Jy P ts s (.int .i64 (Int.ofNat i))) fun q=>ob (QX P te q st.h.get) fun v=>
    AA N [t1,t2] (.int .i64 (Int.ofNat i)) v T fun T1=>ob (codeF P G (Jg P G L0 m0) N L0 a T1 st) fun r=>Ex.rec (ob (codeF P G (Jg P G L0 m0) N L0 b r.2.1 r.2.2) fun q=>Ex.rec (tl (Xe P N ts te x [t1,t2] (codeF P G (Jg P G L0 m0) N L0 a) (codeF P G (Jg P G L0 m0) N L0 b) T i q.2.2)) (fun id=>some (.exit id,T,q.2.2)) (some (.ret,T,q.2.2)) q.1) (fun _=>none) none r.1)=_
   rw[e1,Qh,e2,Qh,e3,Qh];rw[RX,Nh h1,Nh h2,Yq hL hm h3,Qh];show(ob (codeF P G (Jg P G L0 m0) N L0 b T1 st1) _)=_;rw[Yq hL' hm' h4,Qh]
  cases ey with
  |nor=>
   obtain⟨L2,m2,e,st3,h6,h7⟩:=ih st2 (by omega) h5;refine⟨max (max L L') L2,max (max m m') m2,e,st3,?_,h7⟩;rw[key _ _ (by omega) (by omega) (by omega) (by omega)];exact Ln (fun T st r h=>Yq (by omega) (by omega) h) (fun T st r h=>Yq (by omega) (by omega) h) i st2 _ h6
  |exit id=>exact⟨max L L',max m m',_,st2,key _ _ (by omega) (by omega) (by omega) (by omega),h5⟩
  |ret=>exact⟨max L L',max m m',_,st2,key _ _ (by omega) (by omega) (by omega) (by omega),h5⟩
theorem qL{g:Operand}{ps:Array Tmp}{t1 t2:Nat}{a b:Code}{f:FuncId}{x s0:AV}{ts te:TypeId}{n:Nat}(hp:Qg (JX a) (JX b) false=true)(hps:ps.toList=[t1,t2])(h1:Nat.ble (t1+1) N=true)(h2:Nat.ble (t2+1) N=true)
  (hg:QF G T g=some (.fn f [] [x])) (hb:G.b f=some (ts,te)) (hs:QX P ts x st.h.get=some s0) (hl:AN P [ts] s0=some (.int .i64 ((n:Nat):Int))) (hn:n≤UP) (J:Nat→St→Prop) (h0:J n st)
  (hround: ∀i st,i<n→J (i+1) st→ ∃s q v,QX P ts x st.h.get=some s∧Jy P ts s (.int .i64 (Int.ofNat i))=some q∧QX P te q st.h.get=some v∧W P G N a (fun e T' st'=>e=.nor∧W P G N b (D5 Q T (J i)) T' st') ((T.set t1 (.int .i64 (Int.ofNat i))).set t2 v) st)
  (hend: ∀st,J 0 st→Q .nor T st):W P G N (.rangeFunc g ps a b) Q T st:=by
 obtain⟨L,m,e,st',h3,h4⟩:=Ls (P:=P) (G:=G) (Q:=Q) (ts:=ts) (te:=te) (x:=x) h1 h2 J hround hend n st (Nat.le_refl _) h0;refine⟨L,m,e,T,st',?_,h4⟩;show Vh P G N g ps.toList (Qg (JX a) (JX b) false) (codeF P G (Jg P G L m) N L a) (codeF P G (Jg P G L m) N L b) T st=_;unfold Vh;rw[hp,QR,hg,Qh];simp only[hb,Qh,hs,hl];have ht:El ((n:Nat):Int)=some n:=LO n;rw[ht,Qh,Nat.ble_eq_true_of_le hn,QR,hps];exact h3
theorem zS{t:TypeId}{c m off len z z':Nat}{j:Nat}(he:Ua P t=some z)(hj:j<len):Jy P t (.sl c m off len z') (.int .i64 (Int.ofNat j))=some (.ptr c m (off+j *z)):=by
 show(ob (El (j:Int)) fun i=>QD (Nat.ble (i+1) len) (ob (Ua P t) fun z=>JP (off+i *z) fun o=>some (AV.ptr c m o)))=_;show(QD (Nat.ble (j+1) len) (ob (Ua P t) fun z=>JP (off+j *z) fun o=>some (AV.ptr c m o)))=_;rw[Nat.ble_eq_true_of_le hj,he];show(JP (off+j *z) fun o=>some (AV.ptr c m o))=_;rw[QQ]
theorem zN{t e:TypeId}{u:AV}{n:Nat}(ht:P.underlying t=some (.slice e))(hn:ZH u=some n):AN P [t] u=some (.int .i64 (n:Int)):=by
 cases u<;>simp only[ZH]at hn<;>first|(cases hn;done)|skip
 all_goals
  injection hn with hn
  subst hn;unfold AN;simp only[ht];rfl
theorem Su{K0:List (Nat×AV)}{g:Operand}{ps:Array Tmp}{t1 t2 z c:Nat}{a b:Code}{f:FuncId}{ks:AV}{ts te e:TypeId}{n:Nat}(hK:QT K0 T)(hg:Jq G K0 g=some (.fn f [] [.ptr c 0 0]))(hp:Qg (JX a) (JX b) false=true)(hps:ps.toList=[t1,t2])(h1:Nat.ble (t1+1) N=true)(h2:Nat.ble (t2+1) N=true)
  (hb:G.b f=some (ts,te)) (hs:QX P ts (.ptr c 0 0) st.h.get=some ks) (ht:P.underlying ts=some (.slice e)) (he:Ua P ts=some z) (hte:tk P te=.agg z) (hl:ZH ks=some n) (hn:(n:Int)≤9223372036854775807) (J:Nat→St→Prop) (h0:J n st)
  (hround: ∀i st1,i<n→J (i+1) st1→QX P ts (.ptr c 0 0) st1.h.get=some ks∧ ∃X ls cs,Un st1.h.get X z ls ks∧ls[i]? =some cs∧ ∀T1,QT ((t2,.agg cs)::(t1,.int .i64 ((i:Nat):Int))::K0) T1→W P G N a (fun e T' st'=>e=.nor∧W P G N b (D5 Q T (J i)) T' st') T1 st1)
  (hend: ∀st1,J 0 st1→Q .nor T st1):W P G N (.rangeFunc g ps a b) Q T st:=by
 refine qL (f:=f) (x:=.ptr c 0 0) (s0:=ks) hp hps h1 h2 (hK.QF hg) hb hs (zN ht hl) (by have:(UP:Int)=9223372036854775807:=rfl;omega) J h0 (fun i st1 hi hJ=>?_) hend;obtain⟨h3,X,ls,cs,r,h4,h5⟩:=hround i st1 hi hJ;obtain⟨c',m,off,rfl,_,h6,_⟩:=r.load (P:=P) h4;have hi':i<ls.length:=(List.getElem?_eq_some_iff.1 h4).1;exact⟨_,_,_,h3,zS he hi',h6 te hte,h5 _ ((hK.set t1 _).set t2 _)⟩
end
end Go.Proofs.YtadjjadimlkkgaaGreatDoor
end
section
namespace Go.Proofs.YtadjjadimlkkgaaGreatDoor
open Go Go.RowKit
set_option maxHeartbeats 8000000
set_option maxRecDepth 100000

theorem CP(l:List Dc)(s:List Nat):Je (l.take l.length) s=Je l s:=by rw[List.take_length]
theorem RW{st:St}(hf:Qu st){kd:AV}(hc:QI kd=true): ∃v st',Ev Tryz.prog QU 144 [kd] st v st'∧ ∃c,v=.fn 195 [] [.ptr c 0 0]∧Qt st st'∧UC st'.h.get c 0 [kd]∧st.n≤c:=by
 refine QE rfl Tryz.func144 rfl Tryz.ntmps144 rfl fun T hT=>?_;have K:QT [(0,_)] T:=(.cons (hT 0) .nil);have M:=Mem.start hf;refine Qn<|Qb ?_;refine QO K M rfl (Le hc) (by decide) fun c1 _ _ K M=>?_;replace M:=Mem.cast (M':=[(c1,0,[kd])]) M (congrArg (fun q=>(c1,0,q)::[]) (Va (hc)));refine Qf 1 K M ?_;intro _ K;refine o1 K (F4 rfl rfl) rfl fun _ K=>?_;refine Qf 1 K M ?_;intro _ K;refine Qe ⟨.inr rfl,_,J5 K rfl,?_⟩;exact⟨_,rfl,M.qt,M.W9 (k:=0) rfl,(M.own c1 0 [kd] (by simp)).resolve_right (by simp)⟩

theorem Kl{st:St}(hf:Qu st){sc:List Dc}{kd:AV}{ld:List (List AV)}(hD:Y1 st.h.get sc kd ld)(nm:List Nat): ∃v st',Ev Tryz.prog QU 90 [kd,.str nm] st v st'∧v=.int .i64 (Je sc nm)∧Qt st st':=by
 have hln:=hD.ln;have hbn:=hD.Uj;refine QE rfl Tryz.func90 rfl Tryz.ntmps90 rfl fun T hT=>?_;have K:QT [(0,_),(1,_)] T:=(.cons (hT 0) (.cons (hT 1) .nil));have M:=Mem.start hf;refine Qn<|Qb ?_;refine QO K M rfl rfl (by decide) fun c3 _ _ K M=>?_;refine au 2 K M ?_;intro c4 _ _ K _ M;obtain⟨v8,st8,ev8,c8,rfl,q8,r8,l8⟩:=RW M.fresh hD.cell;refine o1 K (Ql rfl ev8) rfl fun _ K=>?_;replace M:=M.Z9 q8 r8 l8;refine Qy ?_;show W _ _ _ _ _ _ _;refine Uq ?_;have K9:=K;refine Su K rfl rfl rfl (by decide) (by decide) rfl (M.load (k:=0) rfl (QA YY rfl)) JM Yp Xw hD.len hD.Uj (fun i st9=>Mem st.h.get st.n [] st9 [(c8,0,[kd]),(c4,0,[.int .i64 0]),(c3,0,[.str nm])]∧Je sc nm=Je (sc.take i) nm) ⟨M,(by rw[CP])⟩ (fun i st9 hi hJ=>?_) (fun st9 hJ=>?_)
 ·obtain⟨M,hx⟩:=hJ;obtain⟨⟨dn10,do10,da10⟩,hi10⟩: ∃k,sc[i]? =some k:=⟨_,List.getElem?_eq_getElem (by omega)⟩;have hm10:=ZP hi10;obtain⟨_,hc10,rfl,hy10⟩:=hD.at_ _ _ hi10;refine⟨M.load (k:=0) rfl (QA YY rfl),_,_,_,(hD.r.mem M (by simp)),hc10,fun T hT=>?_⟩;have K:=hT;refine au 2 K M ?_;intro c6 _ _ K _ M;refine⟨rfl,?_⟩;refine Qf 4 K M ?_;intro _ K;refine Xo K rfl (fun h14=>?_) fun h14=>?_
  ·refine au 3 K M ?_;intro _ _ K _ M;refine Qe ?_;have K:=K9;refine⟨.inr rfl,_,(Fy (Yc K rfl (M.load (k:=2) rfl (QA Zp rfl)))),?_⟩;exact⟨by rw[hx,Ia hi10,if_pos h14],M.qt⟩
  refine Q8 ?_;exact⟨M.less (.cons _ (.refl _)),(by rw[hx,Ia hi10,if_neg h14])⟩
 obtain⟨M,hx⟩:=hJ;show W _ _ _ _ _ _ _;refine au 1 K M ?_;intro _ _ K _ M;refine Qe ⟨.inr rfl,_,(Fy (Yc K rfl (M.load (k:=1) rfl (QA Zp rfl)))),?_⟩;exact⟨by rw[hx];rfl,M.qt⟩

end Go.Proofs.YtadjjadimlkkgaaGreatDoor
end
