/-
  sibylref7.Add, Has: rows of texts in their order.
-/
import Derived.Test.YtadjjadimlkkgaaGreatDoorMnTrM
namespace Go.Proofs.YtadjjadimlkkgaaGreatDoor
open Go Go.RowKit
set_option maxHeartbeats 8000000
set_option linter.unusedVariables false
set_option linter.unusedSimpArgs false
set_option linter.unnecessarySimpa false
set_option maxRecDepth 100000

theorem y9{P:Program}{G:Env}{K:List (Nat×AV)}{st:St}{t yt:TypeId}{x y:Operand}{a b:List Nat}(hx:Jq G K x=some (.str a))(hy:Jq G K y=some (.str b)):Zo P G K (.binOp .lss t x y yt) st (.bool (TU a b)) st:=YU hx hy rfl
theorem Bk{x y:List Nat}{l:List (List Nat)}{i:Nat}(h:l[i]? =some y):V1 x (l.drop i)=(decide (x=y)||V1 x (l.drop (i+1))):=by
 obtain⟨h1,h2⟩:=List.getElem?_eq_some_iff.1 h;rw[List.drop_eq_getElem_cons h1,V1,List.any_cons,h2];rfl
noncomputable def Zc(x:List Nat):List (List Nat)→List (List Nat)
 |[]=>[x]
 |y::l=>if TU y x then y::Zc x l else if y=x then y::l else x::y::l
noncomputable def SJ(kb:AV)(a b:Nat):AV:=match kb with
 |.sl c m off len z=>Qg (Qg (Nat.beq a 0) true (Nat.ble (a+1) len)) (.sl c m (off+a *z) (b-a) z) (.slz c m off a z)
 |_=>.nils
theorem Z3{P:Program}{G:Env}{K:List (Nat×AV)}{st:St}{h:Hp}{t:TypeId}{x:Operand}{lo hi:Option Operand}{kb:AV}{nb:Bool}{X:List Nat}{l:List (List Nat)}{a b:Nat}(r:Un h X 1 (Ud l) kb)(hk:VF kb nb)(he:Ua P t=some 1)(hx:Jq G K x=some kb)(hl:YS (Jq G K) lo=some a)(hh:Y0 (Jq G K) hi l.length=some b)(hab:a≤b)(hb:b≤l.length):
  Zo P G K (.slice t x lo hi none) st (SJ kb a b) st:=by
 rcases hk with⟨rfl,_⟩|⟨⟨c,m,off,n,rfl⟩,_⟩
 ·have hl0:=r.len;rw[Qv]at hl0
  injection hl0 with hl0
  have h1:l=[]:=List.length_eq_zero_iff.1 hl0.symm;subst h1
  have ha0:a=0:=by simp at hb;omega
  have hb0:b=0:=by simp at hb;omega
  subst ha0 hb0;exact PY he hx hl hh
 ·have hn:=r.len;rw[Qv]at hn
  injection hn with hn
  subst hn;exact Nk he hx hl hh hab hb
theorem Z0{h:Hp}{kb:AV}{nb:Bool}{X:List Nat}{l:List (List Nat)}{a b:Nat}(r:Un h X 1 (Ud l) kb)(hk:VF kb nb)(hab:a≤b)(hb:b≤l.length):Un h X 1 (Ud ((l.drop a).take (b-a))) (SJ kb a b):=by
 rcases hk with⟨rfl,_⟩|⟨⟨c,m,off,n,rfl⟩,_⟩
 ·have hl0:=r.len;rw[Qv]at hl0
  injection hl0 with hl0
  have h1:l=[]:=List.length_eq_zero_iff.1 hl0.symm;subst h1
  have ha0:a=0:=by simp at hb;omega
  have hb0:b=0:=by simp at hb;omega
  subst ha0 hb0;exact .nil _ _ _
 ·have hn:=r.len;rw[Qv]at hn
  injection hn with hn
  subst hn;obtain⟨hcX,cells,hv,hfit⟩:=r.alive c m off _ 1 rfl;show Un h X 1 _ (Qg (Qg (Nat.beq a 0) true (Nat.ble (a+1) l.length)) (.sl c m (off+a *1) (b-a) 1) (.slz c m off a 1))
  have hln:(Ud ((l.drop a).take (b-a))).length=b-a:=by rw[Qv,List.length_take,List.length_drop];omega
  have hbb:=r.Uj;rw[Qv]at hbb
  by_cases hc:a=0∨a<l.length
  ·have e:Qg (Nat.beq a 0) true (Nat.ble (a+1) l.length)=true:=by
    rcases hc with rfl|hc
    ·rfl
    ·rw[Nat.ble_eq_true_of_le hc];cases Nat.beq a 0<;>rfl
   rw[e];refine⟨by rw[hln];rfl,by rw[hln];omega,rfl,fun i cs hi=>?_,fun c' m' off' n' z' e'=>?_⟩
   ·have hlt:=(List.getElem?_eq_some_iff.1 hi).1;rw[hln]at hlt
    have hi2:(Ud l)[a+i]? =some cs:=by
     rw[←hi,Ud,Ud,List.getElem?_map,List.getElem?_map,List.getElem?_take_of_lt hlt,List.getElem?_drop]
    obtain⟨c2,m2,off2,cells2,e1,e2,e3,e4,e5⟩:=r.at_ _ _ hi2
    injection e1 with x1 x2 x3 x4 x5
    subst x1 x2 x3;exact⟨c,m,off+a *1,cells2,by rw[hln];rfl,e2,e3,e4,by rw[←e5];congr 2;omega⟩
   ·injection e' with x1 x2 x3 x4 x5
    subst x1 x2 x3 x4;exact⟨hcX,cells,hv,by omega⟩
  ·have e:Qg (Nat.beq a 0) true (Nat.ble (a+1) l.length)=false:=by
    have h1:Nat.beq a 0=false:=by cases h:Nat.beq a 0 with
     |false=>rfl
     |true=>exact absurd (Nat.eq_of_beq_eq_true h) (by omega)
    have h2:Nat.ble (a+1) l.length=false:=by cases h:Nat.ble (a+1) l.length with
     |false=>rfl
     |true=>exact absurd (Nat.le_of_ble_eq_true h) (by omega)
    rw[h1,h2];rfl
   rw[e]
   have h0:(l.drop a).take (b-a)=[]:=by rw[show b-a=0 by omega];rfl
   rw[h0];exact⟨rfl,by simp[Ud],rfl,fun i cs hi=>by simp[Ud]at hi,fun _ _ _ _ _ e'=>by cases e'⟩

theorem Sx{st:St}(hf:Qu st){bl:List (List Nat)}{kb:AV}(hB:Un st.h.get [] 1 (Ud bl) kb)(x:List Nat): ∃v st',Ev Tryz.prog QU 18 [kb,.str x] st v st'∧v=.bool (V1 x bl)∧Qt st st':=by
 have hbn:(bl.length:Int)≤9223372036854775807:=by have:=hB.Uj;rw[Qv]at this;exact this
 refine QE rfl Tryz.func18 rfl Tryz.ntmps18 rfl fun T hT=>?_;have K:QT [(0,_),(1,_)] T:=(.cons (hT 0) (.cons (hT 1) .nil));have M:=Mem.start hf;refine Qf 2 K M ?_;intro _ K;refine JN (fun mm1 T st9=> ∃(i:Nat),mm1=bl.length-i∧QT [(0,kb),(1,.str x),(5,.int .i64 (((i:Nat):Int)))] T∧Mem st.h.get st.n [] st9 []∧i≤bl.length∧V1 x bl=V1 x (bl.drop i)) (fun mm1 T st9 hI=>?_) _ _ _ ⟨0,rfl,(.cons (K _ _ rfl) (.cons (K _ _ rfl) (.cons (K _ _ rfl) .nil))),M.less (.refl _),(Nat.zero_le _),rfl⟩;obtain⟨i,rfl,K,M,hi,hx⟩:=hI;refine Qf 2 K M ?_;intro _ K;refine o1 K (QL Uz rfl rfl (hB.len.trans (congrArg some (Qv _)))) rfl fun _ K=>?_;refine Qf 1 K M ?_;intro _ K;refine Xo K rfl (fun h9=>?_) fun h9=>?_
 ·refine Qf 2 K M ?_;intro _ K;obtain⟨y14,hi14⟩: ∃x,bl[i]? =some x:=⟨_,List.getElem?_eq_getElem (by omega)⟩;obtain⟨x14,m14,f14,q14,_,la14,lo14,lp14⟩:=(Un.mem M hB (by simp)).load (i:=i) (cs:=_) (YI hi14);refine o1 K (Qj (j:=i) Jb (congrArg some q14) rfl (by rw[Qv];omega)) rfl fun _ K=>o1 K (Qr rfl (lo14 _ 0 _ QN rfl)) rfl fun _ K=>?_;refine Qf 2 K M ?_;intro _ K;refine Xo K rfl (fun h17=>?_) fun h17=>?_
  ·refine Qf 1 K M ?_;intro _ K;refine Qe ⟨.inr rfl,_,J5 K rfl,?_⟩;exact⟨by rw[hx,Bk hi14];simp_all,M.qt⟩
  refine Qf 1 K M ?_;intro _ K;refine o1 K (Jf rfl rfl (by omega) (by omega)) rfl fun _ K=>o1 K (Q0 rfl) rfl fun _ K=>Qy ?_;exact⟨_,(by omega),i+1,rfl,(.cons (K _ _ rfl) (.cons (K _ _ rfl) (.cons (K _ _ rfl) .nil))),M.less (.refl _),(by omega),(by rw[hx,Bk hi14];simp_all [eq_comm])⟩
 refine J7 ?_;show W _ _ _ _ _ _ _;refine Qf 1 K M ?_;intro _ K;refine Qe ⟨.inr rfl,_,J5 K rfl,?_⟩;exact⟨by rw[hx,Jo (by omega)];rfl,M.qt⟩

theorem Hx{x y:List Nat}{l:List (List Nat)}{i:Nat}(h:l[i]? =some y):Zc x (l.drop i)=if TU y x then y::Zc x (l.drop (i+1))else if y=x then y::l.drop (i+1)else x::y::l.drop (i+1):=by
 obtain⟨h1,h2⟩:=List.getElem?_eq_some_iff.1 h;rw[List.drop_eq_getElem_cons h1,Zc,h2]
theorem OB{x y:List Nat}{l:List (List Nat)}{i:Nat}(h:l[i]? =some y)(h1:TU y x=false)(h2: ¬y=x):Zc x (l.drop i)=x::l.drop i:=by
 obtain⟨h3,h4⟩:=List.getElem?_eq_some_iff.1 h;rw[Hx h,h1,if_neg (by decide),if_neg h2,List.drop_eq_getElem_cons h3,h4]
theorem Bh{x:List Nat}{l:List (List Nat)}{i:Nat}(h:l[i]? =some x)(h1:TU x x=false):l.take i++Zc x (l.drop i)=l:=by
 obtain⟨h3,h4⟩:=List.getElem?_eq_some_iff.1 h;rw[Hx h,h1,if_neg (by decide),if_pos rfl]
 conv=>rhs;rw[←List.take_append_drop i l,List.drop_eq_getElem_cons h3,h4]
theorem Hj{α:Type}{l:List α}{i:Nat}{y:α}(h:l[i]? =some y):l.take (i+1)=l.take i++[y]:=by
 rw[List.take_add_one,h];rfl

theorem Ek{st:St}(hf:Qu st){bl:List (List Nat)}{kb:AV}(hB:Un st.h.get [] 1 (Ud bl) kb)(x:List Nat){nb:Bool}(hk:VF kb nb)(hl:bl.length<1000000): ∃v st',Ev Tryz.prog QU 53 [kb,.str x] st v st'∧ ∃ks,v=ks∧(I3 st st' 1 ks (Ud (Zc x bl))∨(ks=kb∧Zc x bl=bl))∧Qt st st':=by
 have hbn:(bl.length:Int)≤9223372036854775807:=by have:=hB.Uj;rw[Qv]at this;exact this
 refine QE rfl Tryz.func53 rfl Tryz.ntmps53 rfl fun T hT=>?_;have K:QT [(0,_),(1,_)] T:=(.cons (hT 0) (.cons (hT 1) .nil));have M:=Mem.start hf;refine Qf 2 K M ?_;intro _ K;refine JN (fun mm1 T st9=> ∃(i:Nat),mm1=bl.length-i∧QT [(0,kb),(1,.str x),(4,.nils),(5,.int .i64 (((i:Nat):Int)))] T∧Mem st.h.get st.n [] st9 []∧i≤bl.length∧Zc x bl=bl.take i++Zc x (bl.drop i)) (fun mm1 T st9 hI=>?_) _ _ _ ⟨0,rfl,(.cons (K _ _ rfl) (.cons (K _ _ rfl) (.cons (K _ _ rfl) (.cons (K _ _ rfl) .nil)))),M.less (.refl _),(Nat.zero_le _),(by simp)⟩;obtain⟨i,rfl,K,M,hi,hx⟩:=hI;refine Qf 2 K M ?_;intro _ K;refine o1 K (QL Uz rfl rfl (hB.len.trans (congrArg some (Qv _)))) rfl fun _ K=>o1 K (Hr rfl rfl) rfl fun _ K=>?_;refine oB K (Qd rfl) rfl fun b10 _ e10 K=>?_;cases b10
 ·replace e10:=of_decide_eq_false e10;refine Qf 7 K M ?_;intro _ K;refine Qm (t:=false) (K.QF rfl) (fun h=>by cases h) (fun _=>?_);refine J7 ?_;show W _ _ _ _ _ _ _;refine Qf 2 K M ?_;intro _ K;refine o1 K (QL Uz rfl rfl (hB.len.trans (congrArg some (Qv _)))) rfl fun _ K=>o1 K (Hr rfl rfl) rfl fun _ K=>?_;refine oB K (Qd rfl) rfl fun b24 _ e24 K=>?_;cases b24
  · replace e24:=of_decide_eq_false e24;refine Qf 7 K M ?_;intro _ K;refine Qm (t:=false) (K.QF rfl) (fun h=>by cases h) (fun _=>?_);refine Q8 ?_;show W _ _ _ _ _ _ _;refine Qn ?_;refine Up (l:=[(0,0),(1,0),(2,0),(3,0),(4,0),(5,0),(6,0),(7,0),(8,0),(9,0),(10,0),(11,0),(12,0)]) (by kernel_rfl) ?_;refine Xv rfl K M Q4 JG rfl rfl rfl rfl rfl fun c33 _ _ K M=>?_;refine d1 rfl K (Qd rfl) rfl rfl fun _ K=>d1 rfl K (Qd rfl) rfl rfl fun _ K=>d1 rfl K (Z3 (a:=0) (b:=i) hB hk Jb rfl rfl rfl (by omega) (by omega)) rfl rfl fun _ K=>?_;replace M:=Mem.cast (M':=([(c33,0,[])]++[])) (Mem.perm M (List.perm_append_comm (l₁:=[(c33,0,[])]))) (by simp only[List.append_assoc,List.cons_append,List.nil_append,List.append_nil,List.set_cons_zero,List.set_cons_succ]);have hA0c33:Acc st.n 1 [(c33,0,[])] (.sl c33 0 0 0 1) []:=Acc.own (n0:=st.n) (z:=1) (c:=c33) (m:=0) (ls:=[]) ((M.own c33 0 [] (by simp)).resolve_right (by simp)) (by simp) (by simp);refine V6 (L:=[]) (A:=[(c33,0,[])]) (B:=[]) rfl K M hA0c33 Q4 rfl rfl (Un.mem M (Z0 hB hk (a:=0) (b:=i) (by omega) (by omega)) (by simp)) (UD _) (by first|omega|(simp only[List.length_append,Qv,List.length_take,List.length_drop,List.length_cons,List.length_nil];omega)) rfl fun ks37 A37 _ _ K hA37 M=>?_;refine d1 rfl K (Qd rfl) rfl rfl fun _ K=>?_;refine Xv rfl K M Q4 JG rfl rfl rfl rfl rfl fun c39 _ _ K M=>?_;refine YH (k2:=0) (L:=[(c39,0,[.str x])]) (A:=A37) (B:=[]) rfl K M hA37 Q4 rfl rfl rfl rfl (by first|omega|(simp only[List.length_append,Qv,List.length_take,List.length_drop,List.length_cons,List.length_nil];omega)) rfl fun ks40 A40 _ _ K hA40 M=>?_;refine d1 rfl K (Qd rfl) rfl rfl fun _ K=>d1 rfl K (Qd rfl) rfl rfl fun _ K=>d1 rfl K (Z3 (a:=i) (b:=bl.length) hB hk Jb rfl rfl rfl (by omega) (by omega)) rfl rfl fun _ K=>?_;refine V6 (L:=[(c39,0,[.str x])]) (A:=A40) (B:=[]) rfl K M hA40 Q4 rfl rfl (Un.mem M (Z0 hB hk (a:=i) (b:=bl.length) (by omega) (by omega)) (by simp)) (UD _) (by first|omega|(simp only[List.length_append,Qv,List.length_take,List.length_drop,List.length_cons,List.length_nil];omega)) rfl fun ks44 A44 _ _ K hA44 M=>?_;refine d1 rfl K (Q0 rfl) rfl rfl fun _ K=>UG ?_;show W _ _ _ _ _ _ _;refine Qe ⟨.inr rfl,_,J5 K rfl,?_⟩;refine⟨_,rfl,.inl ?_,M.qt⟩
    have hins:Zc x bl=bl.take i++x::bl.drop i:=by
      rw[hx]
      first
       |(rw[Jo (by omega)];rfl)
       |(exfalso;omega)
       |(congr 1;exact OB hi13 (by simp_all) (by simp_all))
    have ht:(bl.drop i).take (bl.length-i)=bl.drop i:=List.take_of_length_le (by rw[List.length_drop];exact Nat.le_refl _)
    have hls:Ud (Zc x bl)=((([]++(Ud ((bl.drop 0).take (i-0))))++[[.str x]])++(Ud ((bl.drop i).take (bl.length-i)))):=by rw[hins,ht];simp[Ud]
    rw[hls];exact Mem.GU (L:=[(c39,0,[.str x])]) (A:=A44) (B:=[]) M hA44
  replace e24:=of_decide_eq_true e24;refine Qf 2 K M ?_;intro _ K;obtain⟨y27,hi27⟩: ∃x,bl[i]? =some x:=⟨_,List.getElem?_eq_getElem (by omega)⟩;obtain⟨x27,m27,f27,q27,_,la27,lo27,lp27⟩:=(Un.mem M hB (by simp)).load (i:=i) (cs:=_) (YI hi27);refine og K rfl rfl (Qj (j:=i) Jb (congrArg some q27) rfl (by rw[Qv];omega)) rfl fun _ K=>og K rfl rfl (Qr rfl (lo27 _ 0 _ QN rfl)) rfl fun _ K=>?_;refine Qf 3 K M ?_;intro _ K;refine Qm (K.QF rfl) (fun h31=>?_) (fun h31=>?_)
  · have hb31:=h31;replace h31:=of_decide_eq_true h31;refine Qf 2 K M ?_;intro _ K;refine Qe ⟨.inr rfl,_,J5 K rfl,?_⟩
    first
     |(exfalso;omega)
     |(refine⟨_,rfl,.inr ⟨rfl,?_⟩,M.qt⟩;have e:=hi13.symm.trans hi27;injection e with e;subst e;subst h31;rw[hx];exact Bh hi27 h17)
  have hb31:=h31;replace h31:=of_decide_eq_false h31;refine Q8 ?_;show W _ _ _ _ _ _ _;refine Qn ?_;refine Up (l:=[(0,0),(1,0),(2,0),(3,0),(4,0),(5,0),(6,0),(7,0),(8,0),(9,0),(10,0),(11,0),(12,0)]) (by kernel_rfl) ?_;refine Xv rfl K M Q4 JG rfl rfl rfl rfl rfl fun c33 _ _ K M=>?_;refine d1 rfl K (Qd rfl) rfl rfl fun _ K=>d1 rfl K (Qd rfl) rfl rfl fun _ K=>d1 rfl K (Z3 (a:=0) (b:=i) hB hk Jb rfl rfl rfl (by omega) (by omega)) rfl rfl fun _ K=>?_;replace M:=Mem.cast (M':=([(c33,0,[])]++[])) (Mem.perm M (List.perm_append_comm (l₁:=[(c33,0,[])]))) (by simp only[List.append_assoc,List.cons_append,List.nil_append,List.append_nil,List.set_cons_zero,List.set_cons_succ]);have hA0c33:Acc st.n 1 [(c33,0,[])] (.sl c33 0 0 0 1) []:=Acc.own (n0:=st.n) (z:=1) (c:=c33) (m:=0) (ls:=[]) ((M.own c33 0 [] (by simp)).resolve_right (by simp)) (by simp) (by simp);refine V6 (L:=[]) (A:=[(c33,0,[])]) (B:=[]) rfl K M hA0c33 Q4 rfl rfl (Un.mem M (Z0 hB hk (a:=0) (b:=i) (by omega) (by omega)) (by simp)) (UD _) (by first|omega|(simp only[List.length_append,Qv,List.length_take,List.length_drop,List.length_cons,List.length_nil];omega)) rfl fun ks37 A37 _ _ K hA37 M=>?_;refine d1 rfl K (Qd rfl) rfl rfl fun _ K=>?_;refine Xv rfl K M Q4 JG rfl rfl rfl rfl rfl fun c39 _ _ K M=>?_;refine YH (k2:=0) (L:=[(c39,0,[.str x])]) (A:=A37) (B:=[]) rfl K M hA37 Q4 rfl rfl rfl rfl (by first|omega|(simp only[List.length_append,Qv,List.length_take,List.length_drop,List.length_cons,List.length_nil];omega)) rfl fun ks40 A40 _ _ K hA40 M=>?_;refine d1 rfl K (Qd rfl) rfl rfl fun _ K=>d1 rfl K (Qd rfl) rfl rfl fun _ K=>d1 rfl K (Z3 (a:=i) (b:=bl.length) hB hk Jb rfl rfl rfl (by omega) (by omega)) rfl rfl fun _ K=>?_;refine V6 (L:=[(c39,0,[.str x])]) (A:=A40) (B:=[]) rfl K M hA40 Q4 rfl rfl (Un.mem M (Z0 hB hk (a:=i) (b:=bl.length) (by omega) (by omega)) (by simp)) (UD _) (by first|omega|(simp only[List.length_append,Qv,List.length_take,List.length_drop,List.length_cons,List.length_nil];omega)) rfl fun ks44 A44 _ _ K hA44 M=>?_;refine d1 rfl K (Q0 rfl) rfl rfl fun _ K=>UG ?_;show W _ _ _ _ _ _ _;refine Qe ⟨.inr rfl,_,J5 K rfl,?_⟩;refine⟨_,rfl,.inl ?_,M.qt⟩
  have hins:Zc x bl=bl.take i++x::bl.drop i:=by
    rw[hx]
    first
     |(rw[Jo (by omega)];rfl)
     |(exfalso;omega)
     |(congr 1;exact OB hi13 (by simp_all) (by simp_all))
  have ht:(bl.drop i).take (bl.length-i)=bl.drop i:=List.take_of_length_le (by rw[List.length_drop];exact Nat.le_refl _)
  have hls:Ud (Zc x bl)=((([]++(Ud ((bl.drop 0).take (i-0))))++[[.str x]])++(Ud ((bl.drop i).take (bl.length-i)))):=by rw[hins,ht];simp[Ud]
  rw[hls];exact Mem.GU (L:=[(c39,0,[.str x])]) (A:=A44) (B:=[]) M hA44
 replace e10:=of_decide_eq_true e10;refine Qf 2 K M ?_;intro _ K;obtain⟨y13,hi13⟩: ∃x,bl[i]? =some x:=⟨_,List.getElem?_eq_getElem (by omega)⟩;obtain⟨x13,m13,f13,q13,_,la13,lo13,lp13⟩:=(Un.mem M hB (by simp)).load (i:=i) (cs:=_) (YI hi13);refine og K rfl rfl (Qj (j:=i) Jb (congrArg some q13) rfl (by rw[Qv];omega)) rfl fun _ K=>og K rfl rfl (Qr rfl (lo13 _ 0 _ QN rfl)) rfl fun _ K=>og K rfl rfl (Qd rfl) rfl fun _ K=>og K rfl rfl (y9 rfl rfl) rfl fun _ K=>?_;refine Qf 1 K M ?_;intro _ K;refine Qm (K.QF rfl) (fun h17=>?_) (fun h17=>?_)
 ·have hb17:=h17;refine Qf 1 K M ?_;intro _ K;refine o1 K (Jf rfl rfl (by omega) (by omega)) rfl fun _ K=>o1 K (Q0 rfl) rfl fun _ K=>Qy ?_;exact⟨_,(by omega),i+1,rfl,(.cons (K _ _ rfl) (.cons (K _ _ rfl) (.cons (K _ _ rfl) (.cons (K _ _ rfl) .nil)))),M.less (.refl _),(by omega),(by rw[hx,Hx hi13,Hj hi13];simp_all)⟩
 have hb17:=h17;refine J7 ?_;show W _ _ _ _ _ _ _;refine Qf 2 K M ?_;intro _ K;refine o1 K (QL Uz rfl rfl (hB.len.trans (congrArg some (Qv _)))) rfl fun _ K=>o1 K (Hr rfl rfl) rfl fun _ K=>?_;refine oB K (Qd rfl) rfl fun b24 _ e24 K=>?_;cases b24
 ·replace e24:=of_decide_eq_false e24;refine Qf 7 K M ?_;intro _ K;refine Qm (t:=false) (K.QF rfl) (fun h=>by cases h) (fun _=>?_);refine Q8 ?_;show W _ _ _ _ _ _ _;refine Qn ?_;refine Up (l:=[(0,0),(1,0),(2,0),(3,0),(4,0),(5,0),(6,0),(7,0),(8,0),(9,0),(10,0),(11,0),(12,0)]) (by kernel_rfl) ?_;refine Xv rfl K M Q4 JG rfl rfl rfl rfl rfl fun c33 _ _ K M=>?_;refine d1 rfl K (Qd rfl) rfl rfl fun _ K=>d1 rfl K (Qd rfl) rfl rfl fun _ K=>d1 rfl K (Z3 (a:=0) (b:=i) hB hk Jb rfl rfl rfl (by omega) (by omega)) rfl rfl fun _ K=>?_;replace M:=Mem.cast (M':=([(c33,0,[])]++[])) (Mem.perm M (List.perm_append_comm (l₁:=[(c33,0,[])]))) (by simp only[List.append_assoc,List.cons_append,List.nil_append,List.append_nil,List.set_cons_zero,List.set_cons_succ]);have hA0c33:Acc st.n 1 [(c33,0,[])] (.sl c33 0 0 0 1) []:=Acc.own (n0:=st.n) (z:=1) (c:=c33) (m:=0) (ls:=[]) ((M.own c33 0 [] (by simp)).resolve_right (by simp)) (by simp) (by simp);refine V6 (L:=[]) (A:=[(c33,0,[])]) (B:=[]) rfl K M hA0c33 Q4 rfl rfl (Un.mem M (Z0 hB hk (a:=0) (b:=i) (by omega) (by omega)) (by simp)) (UD _) (by first|omega|(simp only[List.length_append,Qv,List.length_take,List.length_drop,List.length_cons,List.length_nil];omega)) rfl fun ks37 A37 _ _ K hA37 M=>?_;refine d1 rfl K (Qd rfl) rfl rfl fun _ K=>?_;refine Xv rfl K M Q4 JG rfl rfl rfl rfl rfl fun c39 _ _ K M=>?_;refine YH (k2:=0) (L:=[(c39,0,[.str x])]) (A:=A37) (B:=[]) rfl K M hA37 Q4 rfl rfl rfl rfl (by first|omega|(simp only[List.length_append,Qv,List.length_take,List.length_drop,List.length_cons,List.length_nil];omega)) rfl fun ks40 A40 _ _ K hA40 M=>?_;refine d1 rfl K (Qd rfl) rfl rfl fun _ K=>d1 rfl K (Qd rfl) rfl rfl fun _ K=>d1 rfl K (Z3 (a:=i) (b:=bl.length) hB hk Jb rfl rfl rfl (by omega) (by omega)) rfl rfl fun _ K=>?_;refine V6 (L:=[(c39,0,[.str x])]) (A:=A40) (B:=[]) rfl K M hA40 Q4 rfl rfl (Un.mem M (Z0 hB hk (a:=i) (b:=bl.length) (by omega) (by omega)) (by simp)) (UD _) (by first|omega|(simp only[List.length_append,Qv,List.length_take,List.length_drop,List.length_cons,List.length_nil];omega)) rfl fun ks44 A44 _ _ K hA44 M=>?_;refine d1 rfl K (Q0 rfl) rfl rfl fun _ K=>UG ?_;show W _ _ _ _ _ _ _;refine Qe ⟨.inr rfl,_,J5 K rfl,?_⟩;refine⟨_,rfl,.inl ?_,M.qt⟩
  have hins:Zc x bl=bl.take i++x::bl.drop i:=by
    rw[hx]
    first
     |(rw[Jo (by omega)];rfl)
     |(exfalso;omega)
     |(congr 1;exact OB hi13 (by simp_all) (by simp_all))
  have ht:(bl.drop i).take (bl.length-i)=bl.drop i:=List.take_of_length_le (by rw[List.length_drop];exact Nat.le_refl _)
  have hls:Ud (Zc x bl)=((([]++(Ud ((bl.drop 0).take (i-0))))++[[.str x]])++(Ud ((bl.drop i).take (bl.length-i)))):=by rw[hins,ht];simp[Ud]
  rw[hls];exact Mem.GU (L:=[(c39,0,[.str x])]) (A:=A44) (B:=[]) M hA44
 replace e24:=of_decide_eq_true e24;refine Qf 2 K M ?_;intro _ K;obtain⟨y27,hi27⟩: ∃x,bl[i]? =some x:=⟨_,List.getElem?_eq_getElem (by omega)⟩;obtain⟨x27,m27,f27,q27,_,la27,lo27,lp27⟩:=(Un.mem M hB (by simp)).load (i:=i) (cs:=_) (YI hi27);refine og K rfl rfl (Qj (j:=i) Jb (congrArg some q27) rfl (by rw[Qv];omega)) rfl fun _ K=>og K rfl rfl (Qr rfl (lo27 _ 0 _ QN rfl)) rfl fun _ K=>?_;refine Qf 3 K M ?_;intro _ K;refine Qm (K.QF rfl) (fun h31=>?_) (fun h31=>?_)
 ·have hb31:=h31;replace h31:=of_decide_eq_true h31;refine Qf 2 K M ?_;intro _ K;refine Qe ⟨.inr rfl,_,J5 K rfl,?_⟩
  first
   |(exfalso;omega)
   |(refine⟨_,rfl,.inr ⟨rfl,?_⟩,M.qt⟩;have e:=hi13.symm.trans hi27;injection e with e;subst e;subst h31;rw[hx];exact Bh hi27 h17)
 have hb31:=h31;replace h31:=of_decide_eq_false h31;refine Q8 ?_;show W _ _ _ _ _ _ _;refine Qn ?_;refine Up (l:=[(0,0),(1,0),(2,0),(3,0),(4,0),(5,0),(6,0),(7,0),(8,0),(9,0),(10,0),(11,0),(12,0)]) (by kernel_rfl) ?_;refine Xv rfl K M Q4 JG rfl rfl rfl rfl rfl fun c33 _ _ K M=>?_;refine d1 rfl K (Qd rfl) rfl rfl fun _ K=>d1 rfl K (Qd rfl) rfl rfl fun _ K=>d1 rfl K (Z3 (a:=0) (b:=i) hB hk Jb rfl rfl rfl (by omega) (by omega)) rfl rfl fun _ K=>?_;replace M:=Mem.cast (M':=([(c33,0,[])]++[])) (Mem.perm M (List.perm_append_comm (l₁:=[(c33,0,[])]))) (by simp only[List.append_assoc,List.cons_append,List.nil_append,List.append_nil,List.set_cons_zero,List.set_cons_succ]);have hA0c33:Acc st.n 1 [(c33,0,[])] (.sl c33 0 0 0 1) []:=Acc.own (n0:=st.n) (z:=1) (c:=c33) (m:=0) (ls:=[]) ((M.own c33 0 [] (by simp)).resolve_right (by simp)) (by simp) (by simp);refine V6 (L:=[]) (A:=[(c33,0,[])]) (B:=[]) rfl K M hA0c33 Q4 rfl rfl (Un.mem M (Z0 hB hk (a:=0) (b:=i) (by omega) (by omega)) (by simp)) (UD _) (by first|omega|(simp only[List.length_append,Qv,List.length_take,List.length_drop,List.length_cons,List.length_nil];omega)) rfl fun ks37 A37 _ _ K hA37 M=>?_;refine d1 rfl K (Qd rfl) rfl rfl fun _ K=>?_;refine Xv rfl K M Q4 JG rfl rfl rfl rfl rfl fun c39 _ _ K M=>?_;refine YH (k2:=0) (L:=[(c39,0,[.str x])]) (A:=A37) (B:=[]) rfl K M hA37 Q4 rfl rfl rfl rfl (by first|omega|(simp only[List.length_append,Qv,List.length_take,List.length_drop,List.length_cons,List.length_nil];omega)) rfl fun ks40 A40 _ _ K hA40 M=>?_;refine d1 rfl K (Qd rfl) rfl rfl fun _ K=>d1 rfl K (Qd rfl) rfl rfl fun _ K=>d1 rfl K (Z3 (a:=i) (b:=bl.length) hB hk Jb rfl rfl rfl (by omega) (by omega)) rfl rfl fun _ K=>?_;refine V6 (L:=[(c39,0,[.str x])]) (A:=A40) (B:=[]) rfl K M hA40 Q4 rfl rfl (Un.mem M (Z0 hB hk (a:=i) (b:=bl.length) (by omega) (by omega)) (by simp)) (UD _) (by first|omega|(simp only[List.length_append,Qv,List.length_take,List.length_drop,List.length_cons,List.length_nil];omega)) rfl fun ks44 A44 _ _ K hA44 M=>?_;refine d1 rfl K (Q0 rfl) rfl rfl fun _ K=>UG ?_;show W _ _ _ _ _ _ _;refine Qe ⟨.inr rfl,_,J5 K rfl,?_⟩;refine⟨_,rfl,.inl ?_,M.qt⟩
 have hins:Zc x bl=bl.take i++x::bl.drop i:=by
  rw[hx]
  first
   |(rw[Jo (by omega)];rfl)
   |(exfalso;omega)
   |(congr 1;exact OB hi13 (by simp_all) (by simp_all))
 have ht:(bl.drop i).take (bl.length-i)=bl.drop i:=List.take_of_length_le (by rw[List.length_drop];exact Nat.le_refl _)
 have hls:Ud (Zc x bl)=((([]++(Ud ((bl.drop 0).take (i-0))))++[[.str x]])++(Ud ((bl.drop i).take (bl.length-i)))):=by rw[hins,ht];simp[Ud]
 rw[hls];exact Mem.GU (L:=[(c39,0,[.str x])]) (A:=A44) (B:=[]) M hA44
end Go.Proofs.YtadjjadimlkkgaaGreatDoor
