/-
  Kinds, plainly: what a name is in a scope, a term's kind, a formula's first error, a program's.
-/
import Derived.Test.YtadjjadimlkkgaaGreatDoorLiTrE
import Derived.Test.YtadjjadimlkkgaaGreatDoorLiRng
set_option linter.unnecessarySimpa false
set_option linter.unusedSimpArgs false
set_option linter.unusedVariables false
section
namespace Go.Proofs.YtadjjadimlkkgaaGreatDoor
open Go Go.RowKit

def Nd.place:Nd→Int
 |.mk _ _ _ a _=>a
def UE(l:List Dc)(s:List Nat):Int:=l.foldl (fun r d=>if d.name=s then d.order else r) (-1)
theorem OZ(l:List Dc)(d:Dc)(s:List Nat):UE (l++[d]) s=if d.name=s then d.order else UE l s:=by
 unfold UE;rw[List.foldl_append];rfl
theorem FP{l:List Dc}{i:Nat}{d:Dc}(h:l[i]? =some d)(s:List Nat):UE (l.take (i+1)) s=if d.name=s then d.order else UE (l.take i) s:=by
 have:l.take (i+1)=l.take i++[d]:=by rw[List.take_add_one,h];rfl
 rw[this,OZ]
mutual
def Q0 (sc : List Dc) : Nd → Int × Int × Int
  | .mk op name _ a kids =>
    if op = [118, 97, 114] then (if UE sc name < 0 then (0, a, 5) else (UE sc name, 0, 0))
    else if op = [110, 117, 109] then (1, 0, 0)
    else match UT sc (decide (op = [112, 108, 117, 115])) a (if op = [112, 108, 117, 115] ∨ op = [115, 101, 116] then 1 else 2) kids with
      | some r => (0, r.1, r.2)
      | none => (if op = [112, 108, 117, 115] then 1 else 2, 0, 0)
def UT (sc : List Dc) (pl : Bool) (a want : Int) : List Nd → Option (Int × Int)
  | [] => none
  | k :: l => if (Q0 sc k).2.2 ≠ 0 then some ((Q0 sc k).2.1, (Q0 sc k).2.2)
    else if (Q0 sc k).1 ≠ want then some (if pl then a else k.place, 7)
    else UT sc pl a want l
end
def Uw(op:List Nat):Int×Int:=if op=[108,116]∨op=[108,101]then(1,1)else if op=[105,110]∨op=[110,111,116,105,110]then(1,2)else(2,2)
def Ub(sc:List Dc)(op:List Nat)(a:Int)(k j:Nd):Int×Int:=
 if(Q0 sc k).2.2≠0 then((Q0 sc k).2.1,(Q0 sc k).2.2)
 else if(Q0 sc j).2.2≠0 then((Q0 sc j).2.1,(Q0 sc j).2.2)
 else if op=[101,113]∨op=[110,101]then(if(Q0 sc k).1=(Q0 sc j).1∧0<(Q0 sc k).1 then(0,0)else(a,7))
 else if((Q0 sc k).1,(Q0 sc j).1)=Uw op then(0,0)else(a,7)
def Ee(sc:List Dc)(a:Int):List Dc→List Nd→Int×Int
 |d::ds,k::l=>if(Q0 sc k).2.2≠0 then((Q0 sc k).2.1,(Q0 sc k).2.2)else if(Q0 sc k).1≠d.order then(a,7)else Ee sc a ds l
 |_,_=>(0,0)
def Zw(ps:List Pd)(sc:List Dc)(name:List Nat)(a:Int)(kids:List Nd):Int×Int:=
 match ps.find? (fun p=>decide (p.name=name))with
 |none=>(a,5)
 |some p=>if p.params.length≠kids.length then(a,7)else Ee sc a p.params kids
def UQ(op:List Nat):Bool:=oneOf op [[101,113],[110,101],[108,116],[108,101],[105,110],[110,111,116,105,110],[115,117,98]]
mutual
def UC(ps:List Pd):Nd→List Dc→Int×Int
 |.mk op name n a kids,sc=>
  if op=[105,115]then(if UE sc name= -1 then(a,5)else if UE sc name=0 then(0,0)else(a,7))
  else if op=[99,97,108,108]then Zw ps sc name a kids
  else if UQ op then(match kids with
   |[k,j]=>Ub sc op a k j
   |_=>(0,0))
  else Kf ps kids (if op=[101,120]∨op=[97,108,108]then sc++[⟨name,n,0⟩]else sc)
def Kf(ps:List Pd):List Nd→List Dc→Int×Int
 |[],_=>(0,0)
 |k::l,sc=>if(UC ps k sc).2≠0 then UC ps k sc else Kf ps l sc
end
def JO:List Dc→List Dc→Option Int
 |_,[]=>none
 |pre,d::l=>if 0≤UE pre d.name then some d.at_ else JO (pre++[d]) l
def A0:List Pd→List Pd→Option (Int×Int)
 |_,[]=>none
 |pre,p::l=>if pre.any (fun q=>decide (q.name=p.name))then some (p.at_,6)else match JO [] p.params with
  |some a=>some (a,6)
  |none=>if(UC pre p.body p.params).2≠0 then some (UC pre p.body p.params)else A0 (pre++[p]) l
def UP(p:Pg):Int×Int:=
 if V2 p then match JO [] p.decls with
  |some a=>(a,6)
  |none=>match A0 [] p.preds with
   |some r=>r
   |none=>UC p.preds p.main p.decls
 else(0,1)
theorem ES{sc:List Dc}{pl:Bool}{a want:Int}{l:List Nd}{i:Nat}{k:Nd}(h:l[i]? =some k):UT sc pl a want (l.drop i)=if(Q0 sc k).2.2≠0 then some ((Q0 sc k).2.1,(Q0 sc k).2.2)else if(Q0 sc k).1≠want then some (if pl then a else k.place,7)else UT sc pl a want (l.drop (i+1)):=by
 obtain⟨h1,h2⟩:=List.getElem?_eq_some_iff.1 h;rw[List.drop_eq_getElem_cons h1,UT,h2]
theorem LW{ps:List Pd}{sc:List Dc}{l:List Nd}{i:Nat}{k:Nd}(h:l[i]? =some k):Kf ps (l.drop i) sc=if(UC ps k sc).2≠0 then UC ps k sc else Kf ps (l.drop (i+1)) sc:=by
 obtain⟨h1,h2⟩:=List.getElem?_eq_some_iff.1 h;rw[List.drop_eq_getElem_cons h1,Kf,h2]
theorem Ag{sc:List Dc}{a:Int}{ds:List Dc}{l:List Nd}{i:Nat}{d:Dc}{k:Nd}(hd:ds[i]? =some d)(h:l[i]? =some k):Ee sc a (ds.drop i) (l.drop i)=if(Q0 sc k).2.2≠0 then((Q0 sc k).2.1,(Q0 sc k).2.2)else if(Q0 sc k).1≠d.order then(a,7)else Ee sc a (ds.drop (i+1)) (l.drop (i+1)):=by
 obtain⟨h1,h2⟩:=List.getElem?_eq_some_iff.1 h;obtain⟨h3,h4⟩:=List.getElem?_eq_some_iff.1 hd;rw[List.drop_eq_getElem_cons h1,List.drop_eq_getElem_cons h3,Ee,h2,h4]
theorem FI{l:List Dc}{i:Nat}{d:Dc}(h:l[i]? =some d):JO (l.take i) (l.drop i)=if 0≤UE (l.take i) d.name then some d.at_ else JO (l.take (i+1)) (l.drop (i+1)):=by
 obtain⟨h1,h2⟩:=List.getElem?_eq_some_iff.1 h
 have:l.take (i+1)=l.take i++[d]:=by rw[List.take_add_one,h];rfl
 rw[List.drop_eq_getElem_cons h1,JO,h2,this]
theorem DQ{l:List Pd}{i:Nat}{p:Pd}(h:l[i]? =some p):A0 (l.take i) (l.drop i)=if(l.take i).any (fun q=>decide (q.name=p.name))then some (p.at_,6)else match JO [] p.params with
  |some a=>some (a,6)
  |none=>if(UC (l.take i) p.body p.params).2≠0 then some (UC (l.take i) p.body p.params)else A0 (l.take (i+1)) (l.drop (i+1)):=by
 obtain⟨h1,h2⟩:=List.getElem?_eq_some_iff.1 h
 have:l.take (i+1)=l.take i++[p]:=by rw[List.take_add_one,h];rfl
 rw[List.drop_eq_getElem_cons h1,A0,h2,this]
end Go.Proofs.YtadjjadimlkkgaaGreatDoor
end
section
namespace Go.Proofs.YtadjjadimlkkgaaGreatDoor
open Go Go.RowKit
set_option maxHeartbeats 8000000
set_option maxRecDepth 100000

theorem BI(l:List Dc)(s:List Nat):UE (l.take l.length) s=UE l s:=by rw[List.take_length]
theorem Rb{st:St}(hf:Qx st){kd:AV}(hc:QE kd=true): ∃v st',Ev Tryz.prog QT 144 [kd] st v st'∧ ∃c,v=.fn 195 [] [.ptr c 0 0]∧Qt st st'∧UI st'.h.get c 0 [kd]∧st.n≤c:=by
 refine Q6 rfl Tryz.func144 rfl Tryz.ntmps144 rfl fun T hT=>?_;have K:Jf [(0,_)] T:=(.cons (hT 0) .nil);have M:=Mem.start hf;refine Qo<|Qb ?_;refine QM K M rfl (WZ hc) (by decide) fun c1 _ _ K M=>?_;replace M:=Mem.cast (M':=[(c1,0,[kd])]) M (congrArg (fun q=>(c1,0,q)::[]) (Zi (hc)));refine Qg 1 K M ?_;intro _ K;refine o1 K (VU rfl rfl) rfl fun _ K=>?_;refine Qg 1 K M ?_;intro _ K;refine Qf ⟨.inr rfl,_,J4 K rfl,?_⟩;exact⟨_,rfl,M.qt,M.Wp (k:=0) rfl,(M.own c1 0 [kd] (by simp)).resolve_right (by simp)⟩

theorem I0{st:St}(hf:Qx st){sc:List Dc}{kd:AV}{ld:List (List AV)}(hD:Y8 st.h.get sc kd ld)(nm:List Nat): ∃v st',Ev Tryz.prog QT 90 [kd,.str nm] st v st'∧v=.int .i64 (UE sc nm)∧Qt st st':=by
 have hln:=hD.ln;have hbn:=hD.UK;refine Q6 rfl Tryz.func90 rfl Tryz.ntmps90 rfl fun T hT=>?_;have K:Jf [(0,_),(1,_)] T:=(.cons (hT 0) (.cons (hT 1) .nil));have M:=Mem.start hf;refine Qo<|Qb ?_;refine QM K M rfl rfl (by decide) fun c3 _ _ K M=>?_;refine au 2 K M ?_;intro c4 _ _ K _ M;obtain⟨v8,st8,ev8,c8,rfl,q8,r8,l8⟩:=Rb M.fresh hD.cell;refine o1 K (Ql rfl ev8) rfl fun _ K=>?_;replace M:=M.Zw q8 r8 l8;refine QG ?_;show W _ _ _ _ _ _ _;refine Yh ?_;have K9:=K;refine O5 K rfl rfl rfl (by decide) (by decide) rfl (M.load (k:=0) rfl (Qw ZI rfl)) JL Yf ZN hD.len hD.UK (fun i st9=>Mem st.h.get st.n [] st9 [(c8,0,[kd]),(c4,0,[.int .i64 0]),(c3,0,[.str nm])]∧UE sc nm=UE (sc.take i) nm) ⟨M,(by rw[BI])⟩ (fun i st9 hi hJ=>?_) (fun st9 hJ=>?_)
 ·obtain⟨M,hx⟩:=hJ;obtain⟨⟨dn10,do10,da10⟩,hi10⟩: ∃k,sc[i]? =some k:=⟨_,List.getElem?_eq_getElem (by omega)⟩;have hm10:=XV hi10;obtain⟨_,hc10,rfl,hy10⟩:=hD.at_ _ _ hi10;refine⟨M.load (k:=0) rfl (Qw ZI rfl),_,_,_,(hD.r.mem M (by simp)),hc10,fun T hT=>?_⟩;have K:=hT;refine au 2 K M ?_;intro c6 _ _ K _ M;refine⟨rfl,?_⟩;refine Qg 4 K M ?_;intro _ K;refine YI K rfl (fun h14=>?_) fun h14=>?_
  ·refine au 3 K M ?_;intro _ _ K _ M;refine Qf ?_;have K:=K9;refine⟨.inr rfl,_,(Eh (YK K rfl (M.load (k:=2) rfl (Qw JP rfl)))),?_⟩;exact⟨by rw[hx,FP hi10,if_pos h14],M.qt⟩
  refine QU ?_;exact⟨M.less (.cons _ (.refl _)),(by rw[hx,FP hi10,if_neg h14])⟩
 obtain⟨M,hx⟩:=hJ;show W _ _ _ _ _ _ _;refine au 1 K M ?_;intro _ _ K _ M;refine Qf ⟨.inr rfl,_,(Eh (YK K rfl (M.load (k:=1) rfl (Qw JP rfl)))),?_⟩;exact⟨by rw[hx];rfl,M.qt⟩

end Go.Proofs.YtadjjadimlkkgaaGreatDoor
end
