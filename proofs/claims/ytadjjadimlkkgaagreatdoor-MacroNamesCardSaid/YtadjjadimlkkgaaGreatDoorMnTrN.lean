/-
  Rows of texts; a formula's free names: the program's answer.
-/
import Derived.Test.YtadjjadimlkkgaaGreatDoorMnTrF
namespace Go.Proofs.YtadjjadimlkkgaaGreatDoor
open Go Go.RowKit
set_option maxHeartbeats 8000000
set_option linter.unusedVariables false
set_option linter.unusedSimpArgs false
set_option linter.unnecessarySimpa false
set_option maxRecDepth 100000

def Ud(l:List (List Nat)):List (List AV):=l.map fun s=>[AV.str s]
theorem Qv(l:List (List Nat)):(Ud l).length=l.length:=by simp[Ud]
theorem YI{l:List (List Nat)}{i:Nat}{s:List Nat}(h:l[i]? =some s):(Ud l)[i]? =some [AV.str s]:=by rw[Ud,List.getElem?_map,h];rfl
theorem Xq(a b:List (List Nat)):Ud (a++b)=Ud a++Ud b:=by simp[Ud]
theorem UD(l:List (List Nat)): ∀cs∈Ud l,cs.length=1:=by
 intro cs h;obtain⟨s,_,rfl⟩:=List.mem_map.1 h;rfl
theorem Bm{α:Type}{p:α→Bool}{l:List α}{i:Nat}{k:α}(h:l[i]? =some k):YN p (l.drop i) i=if p k then(i:Int)else YN p (l.drop (i+1)) (i+1):=Xl h
def VF(kb:AV)(nb:Bool):Prop:=(kb=.nils∧nb=true)∨((∃c m off n,kb=.sl c m off n 1)∧nb=false)
theorem PZ{P:Program}{G:Env}{K:List (Nat×AV)}{st:St}{t yt e:TypeId}{x y:Operand}{kb:AV}{nb:Bool}(hk:VF kb nb)(ht:P.underlying t=some (.slice e))(hx:Jq G K x=some kb)(hy:Jq G K y=some .nils):Zo P G K (.binOp .eql t x y yt) st (.bool nb) st:=by
 rcases hk with⟨rfl,rfl⟩|⟨⟨c,m,off,n,rfl⟩,rfl⟩
 ·exact YU hx hy (by
   show QD (AY (P.underlying t) .nils) (ob (Az .nils .nils) fun b=>some (AV.bool b))=_
   rw[ht];rfl)
 ·exact YU hx hy (by
   show QD (AY (P.underlying t) (.sl c m off n 1)) (ob (Az (.sl c m off n 1) .nils) fun b=>some (AV.bool b))=_
   rw[ht];rfl)
theorem VF.nil{kb:AV}{h:Hp}{X:List Nat}{bl:List (List Nat)}(hk:VF kb true)(r:Un h X 1 (Ud bl) kb):bl=[]:=by
 rcases hk with⟨rfl,_⟩|⟨_,h⟩
 ·have h:=r.len;rw[Qv]at h
  injection h with h
  exact List.length_eq_zero_iff.1 h.symm
 ·cases h
theorem Acc.DS{n0:Nat}{A:List (Nat×Nat×List AV)}{ks:AV}{ls:List (List AV)}(h:Acc n0 1 A ks ls): ∃nb,VF ks nb:=by
 cases h with
 |none=>exact⟨true,.inl ⟨rfl,rfl⟩⟩
 |own=>exact⟨false,.inr ⟨⟨_,_,_,_,rfl⟩,rfl⟩⟩
def V1(s:List Nat)(l:List (List Nat)):Bool:=l.any fun x=>decide (s=x)
mutual
def Qx : Nd → List (List Nat) → List (List Nat)
  | .mk op name _ _ kids, b => if op = [118, 97, 114] ∨ op = [105, 115] then (if V1 name b then [] else [name])
    else if op = [101, 120] ∨ op = [97, 108, 108] then Uu kids (b ++ [name]) else Uu kids b
def Uu : List Nd → List (List Nat) → List (List Nat)
  | [], _ => []
  | k :: l, b => Qx k b ++ Uu l b
end
theorem Ie{kids:List Nd}{i:Nat}{k:Nd}{b:List (List Nat)}(h:kids[i]? =some k):Uu (kids.drop i) b=Qx k b++Uu (kids.drop (i+1)) b:=by
 obtain⟨h1,h2⟩:=List.getElem?_eq_some_iff.1 h;rw[List.drop_eq_getElem_cons h1,Uu,h2]
mutual
theorem Ku: ∀(x:Nd) (b:List (List Nat)),(Qx x b).length≤Jz x
 |.mk op name n a kids,b=>by
  have h:=fun b=>AK kids b;rw[Qx,Jz]
  split
  ·split<;>simp
  ·split
   ·have:=h (b++[name]);omega
   ·have:=h b;omega
theorem AK: ∀(l:List Nd) (b:List (List Nat)),(Uu l b).length≤W2 l
 |[],b=>by simp[Uu]
 |k::l,b=>by
  have h1:=Ku k b;have h2:=AK l b;rw[Uu,W2,List.length_append];omega
end

theorem IS{st:St}(hf:Qu st){bl:List (List Nat)}{kb:AV}(hB:Un st.h.get [] 1 (Ud bl) kb)(x:List Nat): ∃v st',Ev Tryz.prog QU 227 [kb,.str x] st v st'∧v=.int .i64 (YN (fun y=>decide (x=y)) bl 0)∧Qt st st':=by
 have hbn:(bl.length:Int)≤9223372036854775807:=by have:=hB.Uj;rw[Qv]at this;exact this
 refine QE rfl Tryz.func227 rfl Tryz.ntmps227 rfl fun T hT=>?_;have K:QT [(0,_),(1,_)] T:=(.cons (hT 0) (.cons (hT 1) .nil));have M:=Mem.start hf;refine Qf 2 K M ?_;intro _ K;refine o1 K (QL Uz rfl rfl (hB.len.trans (congrArg some (Qv _)))) rfl fun _ K=>?_;refine Qf 1 K M ?_;intro _ K;refine JN (fun mm1 T st9=> ∃(i:Nat),mm1=bl.length-i∧QT [(0,kb),(1,.str x),(7,.int .i64 (((bl.length:Nat):Int))),(8,.int .i64 (((i:Nat):Int)))] T∧Mem st.h.get st.n [] st9 []∧i≤bl.length∧YN (fun y=>decide (x=y)) bl 0=YN (fun y=>decide (x=y)) (bl.drop i) i) (fun mm1 T st9 hI=>?_) _ _ _ ⟨0,rfl,(.cons (K _ _ rfl) (.cons (K _ _ rfl) (.cons (K _ _ rfl) (.cons (K _ _ rfl) .nil)))),M.less (.refl _),(Nat.zero_le _),rfl⟩;obtain⟨i,rfl,K,M,hi,hx⟩:=hI;refine Qf 1 K M ?_;intro _ K;refine Xo K rfl (fun h9=>?_) fun h9=>?_
 ·refine Qf 5 K M ?_;intro _ K;obtain⟨y14,hi14⟩: ∃x,bl[i]? =some x:=⟨_,List.getElem?_eq_getElem (by omega)⟩;obtain⟨x14,m14,f14,q14,_,la14,lo14,lp14⟩:=(Un.mem M hB (by simp)).load (i:=i) (cs:=_) (YI hi14);refine o1 K (Qj (j:=i) Jb (congrArg some q14) rfl (by rw[Qv];omega)) rfl fun _ K=>o1 K (Qr rfl (lo14 _ 0 _ QN rfl)) rfl fun _ K=>?_;refine Qf 1 K M ?_;intro _ K;refine Xo K rfl (fun h16=>?_) fun h16=>?_
  ·refine Qf 2 K M ?_;intro _ K;refine Qe ⟨.inr rfl,_,J5 K rfl,?_⟩;exact⟨by rw[hx,Bm hi14,if_pos (by simpa using h16)],M.qt⟩
  refine Q8 ?_;show W _ _ _ _ _ _ _;refine Qb<|o1 K (Jf rfl rfl (by omega) (by omega)) rfl fun _ K=>o1 K (Qd rfl) rfl fun _ K=>Qy ?_;exact⟨_,(by omega),i+1,rfl,(.cons (K _ _ rfl) (.cons (K _ _ rfl) (.cons (K _ _ rfl) (.cons (K _ _ rfl) .nil)))),M.less (.refl _),(by omega),(by rw[hx,Bm hi14,if_neg (by simpa using h16)])⟩
 refine J7 ?_;show W _ _ _ _ _ _ _;refine Qf 1 K M ?_;intro _ K;refine Qe ⟨.inr rfl,_,J5 K rfl,?_⟩;exact⟨by rw[hx,Jo (by omega)];rfl,M.qt⟩

theorem Xp{st:St}(hf:Qu st){bl:List (List Nat)}{kb:AV}(hB:Un st.h.get [] 1 (Ud bl) kb)(x:List Nat): ∃v st',Ev Tryz.prog QU 223 [kb,.str x] st v st'∧v=.bool (V1 x bl)∧Qt st st':=by
 refine QE rfl Tryz.func223 rfl Tryz.ntmps223 rfl fun T hT=>?_;have K:QT [(0,_),(1,_)] T:=(.cons (hT 0) (.cons (hT 1) .nil));have M:=Mem.start hf;refine Qf 3 K M ?_;intro _ K;refine oQ K M (IS M.fresh (Un.mem M hB (by simp)) x) rfl rfl fun _ _ K M=>?_;refine Qf 2 K M ?_;intro _ K;refine Qe ⟨.inr rfl,_,J5 K rfl,?_⟩;exact⟨by rw[V1,←FD _ bl 0],M.qt⟩

theorem Vx{o s:List Nat}{z a:Int}{l:List Nd}{st:St}{cs:List AV}(hf:Qu st)(hr:UN st.h.get (.mk o s z a l) cs): ∃v st',Ev Tryz.prog QU 242 [.agg cs] st v st'∧v=.bool (decide (o=[101,120])||decide (o=[97,108,108]))∧Qt st st':=by
 have hr0:=hr;obtain⟨kk,ls,rfl,hK,hb⟩:=hr.QJ;have hln:=hK.ln;have hbn:=hK.Uj;refine QE rfl Tryz.func242 rfl Tryz.ntmps242 rfl fun T hT=>?_;have K:QT [(0,_)] T:=(.cons (hT 0) .nil);have M:=Mem.start hf;refine Qn<|Qb ?_;refine QO K M rfl (Qa rfl (Qa rfl (Qa rfl (Qa rfl (Qa hK.cell Qp))))) (by decide) fun c1 _ _ K M=>?_;refine Qf 3 K M ?_;intro _ K;refine o1 K (QC (b:=[101,120]) rfl rfl) rfl fun _ K=>?_;refine oB K (Qd rfl) rfl fun b6 _ e6 K=>?_;cases b6
 ·replace e6:=of_decide_eq_false e6;refine Qf 2 K M ?_;intro _ K;refine og K rfl rfl (QC (b:=[97,108,108]) rfl rfl) rfl fun _ K=>?_;refine Qf 2 K M ?_;intro _ K;refine Qe ⟨.inr rfl,_,J5 K rfl,?_⟩;refine⟨?_,M.qt⟩
  simp_all [Qg,Nd.op]<;>first|done|rfl|omega|(congr 1;done)|(congr 2;done)|(intros;omega)
 replace e6:=of_decide_eq_true e6;refine Qf 5 K M ?_;intro _ K;refine Qe ⟨.inr rfl,_,J5 K rfl,?_⟩;refine⟨?_,M.qt⟩
 simp_all [Qg,Nd.op]<;>first|done|rfl|omega|(congr 1;done)|(congr 2;done)|(intros;omega)

theorem Cr{st:St}(hf:Qu st){bl:List (List Nat)}{kb:AV}(hB:Un st.h.get [] 1 (Ud bl) kb)(hl:bl.length≤1000000){nb:Bool}(hk:VF kb nb): ∃v st',Ev Tryz.prog QU 259 [kb] st v st'∧ ∃ks,v=ks∧I3 st st' 1 ks (Ud bl)∧Qt st st':=by
 have hbn:(bl.length:Int)≤9223372036854775807:=by have:=hB.Uj;rw[Qv]at this;exact this
 have hcl:=Qv bl;refine QE rfl Tryz.func259 rfl Tryz.ntmps259 rfl fun T hT=>?_;have K:QT [(0,_)] T:=(.cons (hT 0) .nil);have M:=Mem.start hf;refine Qf 2 K M ?_;intro _ K;refine o1 K (PZ hk Uz rfl rfl) rfl fun _ K=>Qy ?_;show W _ _ _ _ _ _ _;refine Qm (K.QF rfl) (fun h4=>?_) (fun h4=>?_)
 ·have hb4:=h4;refine Qf 1 K M ?_;intro _ K;refine Qe ⟨.inr rfl,_,J5 K rfl,?_⟩;have hbl:=VF.nil (h4▸hk) hB;exact⟨.nils,rfl,⟨[],by rw[hbl];exact .none,fun _ _ _ h=>by cases h⟩,M.qt⟩
 have hb4:=h4;refine Q8 ?_;show W _ _ _ _ _ _ _;refine Qn<|Qb ?_;refine Fo K M Q4 JG rfl rfl rfl rfl rfl fun c5 _ _ K M=>?_;refine o1 K (Qd rfl) rfl fun _ K=>?_;replace M:=Mem.cast (M':=([(c5,0,[])]++[])) (Mem.perm M (List.perm_append_comm (l₁:=[(c5,0,[])]))) (by simp only[List.append_assoc,List.cons_append,List.nil_append,List.append_nil,List.set_cons_zero,List.set_cons_succ]);have hA0c5:Acc st.n 1 [(c5,0,[])] (.sl c5 0 0 0 1) []:=Acc.own (n0:=st.n) (z:=1) (c:=c5) (m:=0) (ls:=[]) ((M.own c5 0 [] (by simp)).resolve_right (by simp)) (by simp) (by simp);refine NX (L:=[]) (A:=[(c5,0,[])]) (B:=[]) K M hA0c5 Q4 rfl rfl (Un.mem M hB (by simp)) (UD _) (by simp only[List.length_nil,List.length_cons];omega) rfl fun ks7 A7 _ _ K hA7 M=>?_;refine Qf 1 K M ?_;intro _ K;refine Qe ⟨.inr rfl,_,J5 K rfl,?_⟩;refine⟨_,rfl,?_,M.qt⟩;have h:=Mem.GU (L:=[]) (A:=A7) (B:=[]) M hA7
 simpa using h

theorem Mem.xg{h0:Hp}{n0 z:Nat}{st:St}{L A B:List (Nat×Nat×List AV)}{ks:AV}{ls:List (List AV)}(hM:Mem h0 n0 [] st (L++(A++B)))(h:Acc n0 z A ks ls∨(A=[]∧Un h0 [] z ls ks)):Un st.h.get [] z ls ks:=by
 rcases h with h|⟨_,h⟩
 ·exact hM.Ww h
 ·exact Un.mem hM h (by simp)
theorem WK{o s:List Nat}{z a:Int}{l:List Nd}{b:List (List Nat)}(h:o=[118,97,114]∨o=[105,115]):Qx (.mk o s z a l) b=if V1 s b then []else [s]:=by rw[Qx,if_pos h]
theorem GV{o s:List Nat}{z a:Int}{l:List Nd}{b b2:List (List Nat)}(h: ¬(o=[118,97,114]∨o=[105,115]))(hb:b2=if o=[101,120]∨o=[97,108,108]then b++[s]else b):Qx (.mk o s z a l) b=Uu l b2:=by
 rw[Qx,if_neg h,hb]
 split<;>rfl

theorem TI(x:Nd): ∀(bl:List (List Nat)) (kb:AV) (nb:Bool) (st:St) (cs:List AV),Qu st→UN st.h.get x cs→Un st.h.get [] 1 (Ud bl) kb→VF kb nb→bl.length+Jz x≤1000000→ ∃v st',Ev Tryz.prog QU 255 [.agg cs,kb] st v st'∧ ∃ks,v=ks∧I3 st st' 1 ks (Ud (Qx x bl))∧Qt st st':=by
 refine J2 (M:=fun x=> ∀(bl:List (List Nat)) (kb:AV) (nb:Bool) (st:St) (cs:List AV),Qu st→UN st.h.get x cs→Un st.h.get [] 1 (Ud bl) kb→VF kb nb→bl.length+Jz x≤1000000→ ∃v st',Ev Tryz.prog QU 255 [.agg cs,kb] st v st'∧ ∃ks,v=ks∧I3 st st' 1 ks (Ud (Qx x bl))∧Qt st st') (fun o s z a l ih=>?_) x;intro bl kb nb st cs hf hr hB hk hsz;have hr0:=hr;obtain⟨kk,ls,rfl,hK,hb⟩:=hr.QJ;have hln:=hK.ln;have hbn:=hK.Uj;rw[Jz]at hsz;have hcl:=Qv bl;refine QE rfl Tryz.func255 rfl Tryz.ntmps255 rfl fun T hT=>?_;have K:QT [(0,_),(1,_)] T:=(.cons (hT 0) (.cons (hT 1) .nil));have M:=Mem.start hf;refine Qn<|Qb ?_;refine QO K M rfl (Qa rfl (Qa rfl (Qa rfl (Qa rfl (Qa hK.cell Qp))))) (by decide) fun c2 _ _ K M=>?_;refine Qf 3 K M ?_;intro _ K;refine o1 K (QC (b:=[118,97,114]) rfl rfl) rfl fun _ K=>?_;refine oB K (Qd rfl) rfl fun b11 _ e11 K=>?_;cases b11
 ·replace e11:=of_decide_eq_false e11;refine Qf 2 K M ?_;intro _ K;refine og K rfl rfl (QC (b:=[105,115]) rfl rfl) rfl fun _ K=>?_;refine Qf 1 K M ?_;intro _ K;refine Xo K rfl (fun h15=>?_) fun h15=>?_
  ·refine Qf 3 K M ?_;intro _ K;obtain⟨v19,st19,ev19,rfl,q19⟩:=Xp M.fresh (Un.mem M hB (by simp)) s;refine o1 K (Ql rfl ev19) rfl fun _ K=>?_;replace M:=M.quiet q19;refine Qy ?_;show W _ _ _ _ _ _ _;refine Qm (K.QF rfl) (fun h19=>?_) (fun h19=>?_)
   · have hb19:=h19;refine Qf 1 K M ?_;intro _ K;refine Qe ⟨.inr rfl,_,J5 K rfl,?_⟩;refine⟨_,rfl,?_,M.qt⟩;rw[WK (by simp_all),if_pos (by assumption)];exact⟨[],.none,fun _ _ _ h=>by cases h⟩
   have hb19:=h19;refine Qf 2 K M ?_;intro _ K;refine Fo K M Q4 JG rfl rfl rfl rfl rfl fun c22 _ _ K M=>?_;refine Qf 1 K M ?_;intro _ K;refine Qe ⟨.inr rfl,_,J5 K rfl,?_⟩;refine⟨_,rfl,?_,M.qt⟩;rw[WK (by simp_all),if_neg (by simp_all)];exact⟨[(c22,0,[.str s])],Acc.own (z:=1) (c:=c22) (m:=0) (ls:=[[.str s]]) ((M.own c22 0 [.str s] (by simp)).resolve_right (by simp)) (by simp) (by simp),fun c m l h=>M.row c m l (by simp at h;simp[h])⟩
  refine Q8 ?_;show W _ _ _ _ _ _ _
  have hnv: ¬(o=[118,97,114]∨o=[105,115]):=by simp_all
  refine Eh (J:=fun T st9=> ∃(kb2:AV) (b2:List (List Nat)) (A2:List (Nat×Nat×List AV)) (n2:Bool),QT [(1,kb2),(2,.ptr c2 0 0),(4,.nils)] T∧Mem st.h.get st.n [] st9 ((c2,0,[.str o,.str s,.int .i64 z,.int .i64 a,kk])::(A2++[]))∧(Acc st.n 1 A2 kb2 (Ud b2)∨(A2=[]∧Un st.h.get [] 1 (Ud b2) kb2))∧VF kb2 n2∧b2=(if o=[101,120]∨o=[97,108,108]then bl++[s]else bl)) ?_ (fun T st9 hJ=>?_)
  ·refine Qf 1 K M ?_;intro _ K;refine oQ K M (Vx M.fresh (hr0.mono M.rows)) rfl rfl fun _ _ K M=>?_;refine Qy ?_;show W _ _ _ _ _ _ _;refine Qm (K.QF rfl) (fun h24=>?_) (fun h24=>?_)
   · have hb24:=h24;refine Up (l:=[(0,0),(1,0),(2,0),(3,1),(4,0),(5,0),(6,0)]) (by kernel_rfl) ?_;refine d1 rfl K (Qd rfl) rfl rfl fun _ K=>?_;obtain⟨v26,st26,ev26,ks26,rfl,nr26,q26⟩:=Cr M.fresh (Un.mem M hB (by simp)) (by omega) hk;refine dA rfl K (Ql rfl ev26) rfl rfl fun _ K=>?_;have Mp:=M;obtain⟨A26,hA26,M⟩:=M.Xt q26 nr26;refine d1 rfl K (Qw UJ rfl) rfl rfl fun _ K=>?_;refine Yh rfl K rfl (M.load (k:=0) rfl (QA QN rfl)) (Mp.load (k:=0) rfl (QA QN rfl)) (XN rfl) rfl (by decide) fun _ K=>?_;refine Xv rfl K M Q4 JG rfl rfl rfl rfl rfl fun c29 _ _ K M=>?_;refine YH (k2:=0) (L:=[(c29,0,[.str s]),(c2,0,[.str o,.str s,.int .i64 z,.int .i64 a,kk])]) (A:=A26) (B:=[]) rfl K M hA26 Q4 rfl rfl rfl rfl (by rw[Qv];omega) rfl fun ks30 A30 _ _ K hA30 M=>?_;refine d1 rfl K (Q0 rfl) rfl rfl fun _ K=>UG ?_;obtain⟨nb30,hnb30⟩:=hA30.DS;exact⟨ks30,bl++[s],A30,nb30,(.cons (K _ _ rfl) (.cons (K _ _ rfl) (.cons (K _ _ rfl) .nil))),M.less (.cons _ (.refl _)),(by first|exact .inl (by rw[Xq];exact hA30)|exact .inr ⟨rfl,hB⟩),hnb30,(by simp_all)⟩
   have hb24:=h24;refine Q8 ?_;have hnb30:=hk;exact⟨kb,bl,[],nb,(.cons (K _ _ rfl) (.cons (K _ _ rfl) (.cons (K _ _ rfl) .nil))),M.less (.refl _),(by first|exact .inl (by rw[Xq];exact hA30)|exact .inr ⟨rfl,hB⟩),hnb30,(by simp_all)⟩
  obtain⟨kb2,b2,A2,n2,K,M,hA2,hn2,hb2⟩:=hJ
  have hbl2:b2.length≤bl.length+1:=by rw[hb2];split<;>simp
  refine Qf 3 K M ?_;intro _ K;refine o1 K (QL Q7 rfl rfl hK.len) rfl fun _ K=>?_;refine Qf 1 K M ?_;intro _ K;refine JN (fun mm1 T st9=> ∃(i:Nat) (nl:List (List Nat)) (ks:AV) (A:List (Nat×Nat×List AV)),mm1=l.length-i∧QT [(1,kb2),(4,.nils),(5,ks),(32,kk),(33,.int .i64 (((l.length:Nat):Int))),(34,.int .i64 (((i:Nat):Int)))] T∧Mem st.h.get st.n [] st9 ((c2,0,[.str o,.str s,.int .i64 z,.int .i64 a,kk])::(A2++(A++[])))∧Acc st.n 1 A ks (Ud nl)∧i≤l.length∧Uu l b2=nl++Uu (l.drop i) b2) (fun mm1 T st9 hI=>?_) _ _ _ ⟨0,[],.nils,[],rfl,(.cons (K _ _ rfl) (.cons (K _ _ rfl) (.cons (K _ _ rfl) (.cons (K _ _ rfl) (.cons (K _ _ rfl) (.cons (K _ _ rfl) .nil)))))),M.less (.refl _),.none,(Nat.zero_le _),rfl⟩;obtain⟨i,nl,ks,A,rfl,K,M,hA,hi,hinv⟩:=hI;refine Qf 1 K M ?_;intro _ K;refine Xo K rfl (fun h35=>?_) fun h35=>?_
  ·refine Q8 ?_;show W _ _ _ _ _ _ _;refine Qn<|Uq<|Qn<|Qb ?_;obtain⟨⟨o36,s36,z36,a36,l36⟩,hi36⟩: ∃k,l[i]? =some k:=⟨_,List.getElem?_eq_getElem (by first|omega|(have:=Jj (m:=1) (l:=l) (by assumption);omega)|(have:=Jj (m:=2) (l:=l) (by assumption);omega)|(have:=has_len (m:=1) (l:=l) (by assumption);omega))⟩;have hm36:=J6 hi36;obtain⟨_,hc36,hn36⟩:=hK.at_ _ _ hi36;have hp36:=hn36;obtain⟨kk36,ls36,rfl,hK36,hb36⟩:=hp36.QJ;obtain⟨x36,m36,f36,q36,_,la36,lo36,lp36⟩:=(hK.r.mem M (by simp)).load (i:=i) (cs:=_) hc36;refine o1 K (Qj (j:=i) QH (congrArg some q36) rfl (by rw[hK.ln];first|omega|(have:=Jj (m:=1) (l:=l) (by assumption);omega)|(have:=Jj (m:=2) (l:=l) (by assumption);omega)|(have:=has_len (m:=1) (l:=l) (by assumption);omega))) rfl fun _ K=>o1 K (Qr rfl (la36 _ Qs)) rfl fun _ K=>?_;refine Ul K M Ja (by decide) fun c7 _ _ K M=>?_;refine Q5 (k:=0) K M rfl rfl rfl Qq rfl (Qa rfl (Qa rfl (Qa rfl (Qa rfl (Qa hK36.cell Qp))))) rfl fun _ M=>?_;refine Qf 3 K M ?_;intro _ K;have hkk:=Yb hm36;obtain⟨v41,st41,ev41,ks41,rfl,nr41,q41⟩:=ih _ hm36 b2 kb2 n2 _ _ M.fresh (hn36.mono M.rows) (Mem.xg (L:=[(c7,0,[.str o36,.str s36,.int .i64 z36,.int .i64 a36,kk36]),(c2,0,[.str o,.str s,.int .i64 z,.int .i64 a,kk])]) (A:=A2) (B:=(A++[])) M hA2) hn2 (by omega);refine o1 K (Ql rfl ev41) rfl fun _ K=>?_
   have hroom:nl.length+(Qx (.mk o36 s36 z36 a36 l36) b2).length≤1000000:=by
    have h1:=AK l b2;rw[hinv,Ie hi36,List.length_append,List.length_append]at h1;omega
   obtain⟨A41,hA41,M⟩:=M.Xt q41 nr41;replace M:=Mem.cast (M':=((c7,0,[.str o36,.str s36,.int .i64 z36,.int .i64 a36,kk36])::(c2,0,[.str o,.str s,.int .i64 z,.int .i64 a,kk])::(A2++(A++(A41++[]))))) M (by simp only[List.append_assoc,List.cons_append,List.nil_append,List.append_nil,List.set_cons_zero,List.set_cons_succ]);refine NX (L:=((c7,0,[.str o36,.str s36,.int .i64 z36,.int .i64 a36,kk36])::(c2,0,[.str o,.str s,.int .i64 z,.int .i64 a,kk])::(A2++[]))) (A:=A) (B:=(A41++[])) K (Mem.cast (M:=((c7,0,[.str o36,.str s36,.int .i64 z36,.int .i64 a36,kk36])::(c2,0,[.str o,.str s,.int .i64 z,.int .i64 a,kk])::(A2++(A++(A41++[]))))) (M':=((c7,0,[.str o36,.str s36,.int .i64 z36,.int .i64 a36,kk36])::(c2,0,[.str o,.str s,.int .i64 z,.int .i64 a,kk])::(A2++[]))++(A++(A41++[]))) M (by simp only[List.append_assoc,List.cons_append,List.nil_append,List.append_nil,List.set_cons_zero,List.set_cons_succ])) hA Q4 rfl rfl (Mem.Ww (L:=((c7,0,[.str o36,.str s36,.int .i64 z36,.int .i64 a36,kk36])::(c2,0,[.str o,.str s,.int .i64 z,.int .i64 a,kk])::(A2++(A++[])))) (A:=A41) (B:=[]) (Mem.cast (M:=((c7,0,[.str o36,.str s36,.int .i64 z36,.int .i64 a36,kk36])::(c2,0,[.str o,.str s,.int .i64 z,.int .i64 a,kk])::(A2++(A++(A41++[]))))) (M':=((c7,0,[.str o36,.str s36,.int .i64 z36,.int .i64 a36,kk36])::(c2,0,[.str o,.str s,.int .i64 z,.int .i64 a,kk])::(A2++(A++[])))++(A41++[])) M (by simp only[List.append_assoc,List.cons_append,List.nil_append,List.append_nil,List.set_cons_zero,List.set_cons_succ])) hA41) (UD _) (by rw[Qv,Qv];omega) rfl fun ks42 A42 _ _ K hA42 M=>?_;replace M:=Mem.cast (M:=((c7,0,[.str o36,.str s36,.int .i64 z36,.int .i64 a36,kk36])::(c2,0,[.str o,.str s,.int .i64 z,.int .i64 a,kk])::(A2++[]))++(A42++(A41++[]))) (M':=((c7,0,[.str o36,.str s36,.int .i64 z36,.int .i64 a36,kk36])::(c2,0,[.str o,.str s,.int .i64 z,.int .i64 a,kk])::(A2++(A42++(A41++[]))))) M (by simp only[List.append_assoc,List.cons_append,List.nil_append,List.append_nil,List.set_cons_zero,List.set_cons_succ]);refine Qf 1 K M ?_;intro _ K;refine o1 K (Jf rfl rfl (by omega) (by omega)) rfl fun _ K=>o1 K (Qd rfl) rfl fun _ K=>Qy ?_;exact⟨_,(by omega),i+1,nl++Qx (.mk o36 s36 z36 a36 l36) b2,ks42,A42,rfl,(.cons (K _ _ rfl) (.cons (K _ _ rfl) (.cons (K _ _ rfl) (.cons (K _ _ rfl) (.cons (K _ _ rfl) (.cons (K _ _ rfl) .nil)))))),M.less (.cons _ (.cons_cons _ (List.Sublist.append_left (List.Sublist.append_left (List.nil_sublist _) _) _))),(by rw[Xq];exact hA42),(by omega),(by rw[hinv,Ie hi36,List.append_assoc])⟩
  refine J7 ?_;show W _ _ _ _ _ _ _;refine Qf 2 K M ?_;intro _ K;refine Qe ⟨.inr rfl,_,J5 K rfl,?_⟩;refine⟨_,rfl,?_,M.qt⟩;rw[GV hnv hb2,hinv,Jo (by omega),Uu,List.append_nil];exact Mem.GU (L:=((c2,0,[.str o,.str s,.int .i64 z,.int .i64 a,kk])::(A2++[]))) (A:=A) (B:=[]) (Mem.cast (M:=((c2,0,[.str o,.str s,.int .i64 z,.int .i64 a,kk])::(A2++(A++[])))) (M':=((c2,0,[.str o,.str s,.int .i64 z,.int .i64 a,kk])::(A2++[]))++(A++[])) M (by simp only[List.append_assoc,List.cons_append,List.nil_append,List.append_nil,List.set_cons_zero,List.set_cons_succ])) hA
 replace e11:=of_decide_eq_true e11;refine Qf 4 K M ?_;intro _ K;refine Qm (t:=true) (K.QF rfl) (fun _=>?_) (fun h=>by cases h);refine Qf 3 K M ?_;intro _ K;obtain⟨v19,st19,ev19,rfl,q19⟩:=Xp M.fresh (Un.mem M hB (by simp)) s;refine o1 K (Ql rfl ev19) rfl fun _ K=>?_;replace M:=M.quiet q19;refine Qy ?_;show W _ _ _ _ _ _ _;refine Qm (K.QF rfl) (fun h19=>?_) (fun h19=>?_)
 ·have hb19:=h19;refine Qf 1 K M ?_;intro _ K;refine Qe ⟨.inr rfl,_,J5 K rfl,?_⟩;refine⟨_,rfl,?_,M.qt⟩;rw[WK (by simp_all),if_pos (by assumption)];exact⟨[],.none,fun _ _ _ h=>by cases h⟩
 have hb19:=h19;refine Qf 2 K M ?_;intro _ K;refine Fo K M Q4 JG rfl rfl rfl rfl rfl fun c22 _ _ K M=>?_;refine Qf 1 K M ?_;intro _ K;refine Qe ⟨.inr rfl,_,J5 K rfl,?_⟩;refine⟨_,rfl,?_,M.qt⟩;rw[WK (by simp_all),if_neg (by simp_all)];exact⟨[(c22,0,[.str s])],Acc.own (z:=1) (c:=c22) (m:=0) (ls:=[[.str s]]) ((M.own c22 0 [.str s] (by simp)).resolve_right (by simp)) (by simp) (by simp),fun c m l h=>M.row c m l (by simp at h;simp[h])⟩
end Go.Proofs.YtadjjadimlkkgaaGreatDoor
