/-
  lower: names come into scope and go out of it.
-/
import Derived.Test.YtadjjadimlkkgaaGreatDoorLiLwA
namespace Go.Proofs.YtadjjadimlkkgaaGreatDoor
open Go Go.RowKit
set_option maxHeartbeats 8000000
set_option linter.unusedVariables false
set_option linter.unusedSimpArgs false
set_option linter.unnecessarySimpa false
set_option linter.unusedSectionVars false
set_option maxRecDepth 100000

theorem Fu{st:St}(hf:Qx st){cp:Nat}{A:Qj}{kn:AV}{S:LS}(hL:C5 st (FL cp A kn S.lg))(hA:US 0 A kn S.ns)(hns:S.ns.length≤100000)(s:List Nat): ∃v st',Ev Tryz.prog QT 167 [.ptr cp 0 0,.str s] st v st'∧v=.int .i64 ((S.ns.length:Nat):Int)∧ ∃kn' A',Ov st st' (FL cp A kn S.lg) (FL cp A' kn' (Qv S s).lg)∧US 0 A' kn' (Qv S s).ns:=by
 have hap:(S.ns++[s]).length=S.ns.length+1:=by simp
 refine Q6 rfl Tryz.func167 rfl Tryz.ntmps167 rfl fun T hT=>?_;have K:Jf [(0,_),(1,_)] T:=(.cons (hT 0) (.cons (hT 1) .nil));have M:=Mem.cast (M':=(cp,0,[kn,.bool S.lg])::(A++[])) (hL.start hf) (by simp[FL]);refine Qg 7 K M ?_;intro _ K;refine Am K M YZ Xw rfl rfl rfl rfl rfl fun c11 _ _ K M=>?_;refine Mf (k2:=0) (L:=[(c11,0,[.str s]),(cp,0,[kn,.bool S.lg])]) (A:=A) (B:=[]) K M hA YZ rfl rfl rfl (by omega) rfl fun ks12 A12 _ _ K hA12 M=>?_;replace M:=Mem.cast (M:=[(c11,0,[.str s]),(cp,0,[kn,.bool S.lg])]++(A12++[])) (M':=((c11,0,[.str s])::(cp,0,[kn,.bool S.lg])::(A12++[]))) M (by first|(simp only[List.append_assoc,List.cons_append,List.nil_append,List.append_nil,List.set_cons_zero,List.set_cons_succ];done)|(simp only[List.append_assoc,List.cons_append,List.nil_append,List.append_nil,List.set_cons_zero,List.set_cons_succ];rfl));refine Qg 2 K M ?_;intro _ K;refine KW (k:=1) K M rfl rfl rfl XS (hA12.cell) rfl fun _ M=>?_;refine Qg 5 K M ?_;intro _ K;refine oB K (Qc rfl) rfl fun b20 _ e20 K=>?_;cases b20
 ·refine Qg 4 K M ?_;intro _ K;refine og K rfl rfl (QF Jg rfl rfl hA12.len) rfl fun _ K=>?_;refine au 9 K M ?_;intro _ _ K _ M;refine o1 K (QF Jg rfl rfl hA12.len) rfl fun _ K=>o1 K (WB rfl rfl (by omega) (by omega)) rfl fun _ K=>?_;refine Qg 1 K M ?_;intro _ K;refine Qf ⟨.inr rfl,_,J4 K rfl,?_⟩
  have hlg:(Qv S s).lg=decide (6<(((S.ns++[s]).length:Nat):Int)):=by first|(simp only[Qv,e20,Bool.true_or];done)|(simp only[Qv,e20,Bool.false_or,hap];done)|(simp only[Qv,e20,Bool.false_or,hap];exact decide_eq_decide.2 (by omega))
  refine⟨?_,ks12,A12,?_,?_⟩
  ·first|rfl|(simp;done)|(simp;omega)
  ·rw[hlg];exact Mem.JS (F':=FL cp A12 ks12 (decide (6<(((S.ns++[s]).length:Nat):Int)))) (Mem.Q9 (L:=[[(c11,0,[.str s])],[(cp,0,[ks12,.bool (decide (6<(((S.ns++[s]).length:Nat):Int)))])],A12]) M [1,2,0] (n:=3) rfl (by decide)) (List.sublist_append_left _ (([(c11,0,[.str s])]++[]):Qj))
  ·exact hA12
 refine au 14 K M ?_;intro _ _ K _ M;refine o1 K (QF Jg rfl rfl hA12.len) rfl fun _ K=>o1 K (WB rfl rfl (by omega) (by omega)) rfl fun _ K=>?_;refine Qg 1 K M ?_;intro _ K;refine Qf ⟨.inr rfl,_,J4 K rfl,?_⟩
 have hlg:(Qv S s).lg=true:=by first|(simp only[Qv,e20,Bool.true_or];done)|(simp only[Qv,e20,Bool.false_or,hap];done)|(simp only[Qv,e20,Bool.false_or,hap];exact decide_eq_decide.2 (by omega))
 refine⟨?_,ks12,A12,?_,?_⟩
 ·first|rfl|(simp;done)|(simp;omega)
 ·rw[hlg];exact Mem.JS (F':=FL cp A12 ks12 true) (Mem.Q9 (L:=[[(c11,0,[.str s])],[(cp,0,[ks12,.bool true])],A12]) M [1,2,0] (n:=3) rfl (by decide)) (List.sublist_append_left _ (([(c11,0,[.str s])]++[]):Qj))
 ·exact hA12

theorem N5{st:St}(hf:Qx st){cp:Nat}{A:Qj}{kn:AV}{S:LS}(hL:C5 st (FL cp A kn S.lg))(hA:US 0 A kn S.ns)(hns:S.ns.length≤100000)(n:Nat)(hn:n≤S.ns.length): ∃v st',Ev Tryz.prog QT 170 [.ptr cp 0 0,.int .i64 (((n:Nat):Int))] st v st'∧v=.tup []∧ ∃kn' A',Ov st st' (FL cp A kn S.lg) (FL cp A' kn' (UR S n).lg)∧US 0 A' kn' (UR S n).ns:=by
 refine Q6 rfl Tryz.func170 rfl Tryz.ntmps170 rfl fun T hT=>?_;have K:Jf [(0,_),(1,_)] T:=(.cons (hT 0) (.cons (hT 1) .nil));have M:=Mem.cast (M':=(cp,0,[kn,.bool S.lg])::(A++[])) (hL.start hf) (by simp[FL]);refine Qg 6 K M ?_;intro _ K;obtain⟨ks10,hA10,hos10⟩:=M8 (n:=n) hA (by omega);refine o1 K (hos10 QC rfl rfl) rfl fun _ K=>?_;refine Qg 2 K M ?_;intro _ K;refine KW (k:=0) K M rfl rfl rfl XS (hA10.cell) rfl fun _ M=>?_;refine QG ?_;refine⟨.inl rfl,_,W2,?_⟩
 have hlg:(UR S n).lg=S.lg:=by rfl
 refine⟨?_,ks10,A,?_,?_⟩
 ·first|rfl|(simp;done)|(simp;omega)
 ·rw[hlg];exact Mem.JS (F':=FL cp A ks10 S.lg) (Mem.Q9 (L:=[[(cp,0,[ks10,.bool S.lg])],A]) M [0,1] (n:=2) rfl (by decide)) (List.sublist_append_left _ ([]:Qj))
 ·exact hA10

theorem Hd{st:St}(hf:Qx st){cp:Nat}{A:Qj}{kn:AV}{S:LS}(hL:C5 st (FL cp A kn S.lg))(hA:US 0 A kn S.ns)(hns:S.ns.length≤100000)(z:Int): ∃v st',Ev Tryz.prog QT 212 [.ptr cp 0 0,.int .i64 z] st v st'∧v=.int .i64 z∧ ∃kn' A',Ov st st' (FL cp A kn S.lg) (FL cp A' kn' (QW S z).lg)∧US 0 A' kn' (QW S z).ns:=by
 refine Q6 rfl Tryz.func212 rfl Tryz.ntmps212 rfl fun T hT=>?_;have K:Jf [(0,_),(1,_)] T:=(.cons (hT 0) (.cons (hT 1) .nil));have M:=Mem.cast (M':=(cp,0,[kn,.bool S.lg])::(A++[])) (hL.start hf) (by simp[FL]);refine Qg 6 K M ?_;intro _ K;refine oB K (Qc rfl) rfl fun b10 _ e10 K=>?_;cases b10
 ·refine au 8 K M ?_;intro _ _ K _ M;refine Qf ⟨.inr rfl,_,J4 K rfl,?_⟩
  have hlg:(QW S z).lg=decide (20<z):=by first|(simp only[QW,e10,Bool.true_or];done)|(simp only[QW,e10,Bool.false_or];done)
  refine⟨?_,kn,A,?_,?_⟩
  ·first|rfl|(simp;done)|(simp;omega)
  ·rw[hlg];exact Mem.JS (F':=FL cp A kn (decide (20<z))) (Mem.Q9 (L:=[[(cp,0,[kn,.bool (decide (20<z))])],A]) M [0,1] (n:=2) rfl (by decide)) (List.sublist_append_left _ ([]:Qj))
  ·exact hA
 refine au 8 K M ?_;intro _ _ K _ M;refine Qf ⟨.inr rfl,_,J4 K rfl,?_⟩
 have hlg:(QW S z).lg=true:=by first|(simp only[QW,e10,Bool.true_or];done)|(simp only[QW,e10,Bool.false_or];done)
 refine⟨?_,kn,A,?_,?_⟩
 ·first|rfl|(simp;done)|(simp;omega)
 ·rw[hlg];exact Mem.JS (F':=FL cp A kn true) (Mem.Q9 (L:=[[(cp,0,[kn,.bool true])],A]) M [0,1] (n:=2) rfl (by decide)) (List.sublist_append_left _ ([]:Qj))
 ·exact hA

theorem PZ{st:St}(hf:Qx st){kd:AV}(hc:QE kd=true): ∃v st',Ev Tryz.prog QT 172 [kd] st v st'∧ ∃c,v=.fn 210 [] [.ptr c 0 0]∧Qt st st'∧UI st'.h.get c 0 [kd]∧st.n≤c:=by
 refine Q6 rfl Tryz.func172 rfl Tryz.ntmps172 rfl fun T hT=>?_;have K:Jf [(0,_)] T:=(.cons (hT 0) .nil);have M:=Mem.start hf;refine Qo<|Qb ?_;refine QM K M rfl (WZ hc) (by decide) fun c1 _ _ K M=>?_;replace M:=Mem.cast (M':=[(c1,0,[kd])]) M (congrArg (fun q=>(c1,0,q)::[]) (Zi (hc)));refine Qg 1 K M ?_;intro _ K;refine o1 K (VU rfl rfl) rfl fun _ K=>?_;refine Qg 1 K M ?_;intro _ K;refine Qf ⟨.inr rfl,_,J4 K rfl,?_⟩;exact⟨_,rfl,M.qt,M.Wp (k:=0) rfl,(M.own c1 0 [kd] (by simp)).resolve_right (by simp)⟩

theorem Lv{st:St}(hf:Qx st){cp:Nat}{kn lg:AV}{ns:List (List Nat)}(hr:Yy st.h.get cp 0 [kn,lg])(hB:VK st.h.get [] 1 (Kq ns) kn)(nm:List Nat): ∃v st',Ev Tryz.prog QT 111 [.ptr cp 0 0,.str nm] st v st'∧v=.int .i64 (I3 ns nm)∧Qt st st':=by
 have hbn:(ns.length:Int)≤9223372036854775807:=by have:=hB.UK;rw[Xp]at this;exact this
 refine Q6 rfl Tryz.func111 rfl Tryz.ntmps111 rfl fun T hT=>?_;have K:Jf [(0,_),(1,_)] T:=(.cons (hT 0) (.cons (hT 1) .nil));have M:=Mem.start hf;refine Qo<|Qb ?_;refine QM K M rfl rfl (by decide) fun c3 _ _ K M=>?_;refine au 4 K M ?_;intro c4 _ _ K _ M;refine o1 K (Qr rfl (Wa (M.rows _ _ _ hr) (Qw ZO rfl))) rfl fun _ K=>?_;obtain⟨v11,st11,ev11,c11,rfl,q11,r11,l11⟩:=PZ M.fresh hB.cell;refine o1 K (Ql rfl ev11) rfl fun _ K=>?_;replace M:=M.Zw q11 r11 l11;refine QG ?_;show W _ _ _ _ _ _ _;refine Yh ?_;have K9:=K;refine Ru K rfl rfl rfl (by decide) (by decide) rfl (M.load (k:=0) rfl (Qw ZO rfl)) Jg QC QY (hB.len.trans (congrArg some (Xp _))) hbn (fun i st9=>Mem st.h.get st.n [] st9 [(c11,0,[kn]),(c4,0,[.int .i64 0]),(c3,0,[.str nm])]∧I3 ns nm=AA ns nm i) ⟨M,rfl⟩ (fun i st9 hi hJ=>?_) (fun st9 hJ=>?_)
 ·obtain⟨M,hx⟩:=hJ;obtain⟨y13,hi13⟩: ∃x,ns[i]? =some x:=⟨_,List.getElem?_eq_getElem (by omega)⟩;refine⟨M.load (k:=0) rfl (Qw ZO rfl),_,_,_,(VK.mem M hB (by simp)),(CE hi13),fun T hT=>?_⟩;have K:=hT;refine Qg 2 K M ?_;intro _ K;refine⟨rfl,?_⟩;refine Qg 3 K M ?_;intro _ K;refine YI K rfl (fun h16=>?_) fun h16=>?_
  ·refine au 2 K M ?_;intro _ _ K _ M;refine Qf ?_;have K:=K9;refine⟨.inr rfl,_,(Eh (YK K rfl (M.load (k:=1) rfl (Qw JP rfl)))),?_⟩;exact⟨by rw[hx,I2 hi13,if_pos h16],M.qt⟩
  refine QU ?_;exact⟨M.less (.refl _),(by rw[hx,I2 hi13,if_neg h16])⟩
 obtain⟨M,hx⟩:=hJ;show W _ _ _ _ _ _ _;refine au 1 K M ?_;intro _ _ K _ M;refine Qf ⟨.inr rfl,_,(Eh (YK K rfl (M.load (k:=1) rfl (Qw JP rfl)))),?_⟩;exact⟨by rw[hx];rfl,M.qt⟩
end Go.Proofs.YtadjjadimlkkgaaGreatDoor
