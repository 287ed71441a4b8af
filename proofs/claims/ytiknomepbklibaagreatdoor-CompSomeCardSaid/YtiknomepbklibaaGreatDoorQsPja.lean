/-
  Automata: looked at.
-/
import Derived.Test.YtiknomepbklibaaGreatDoorQsAuB
set_option maxHeartbeats 8000000
set_option maxRecDepth 100000
set_option linter.unnecessarySimpa false
set_option linter.unusedSimpArgs false
set_option linter.unusedVariables false
namespace Go.Proofs.YtiknomepbklibaaGreatDoor
open Go Go.RowKit
section
variable {r s:Nat} {w:List Int}

theorem Xw{l:List Nat}{i:Nat}(h:l[i]? =some r):(zC (zN l))[i]? =some [.int .i64 (r:Nat)]:=Jm (by rw[List.getElem?_map,h];rfl)
theorem Au.KC{a:Au}{b:Bool}(h:a.acc[s]? =some b):a.ok s=b:=by unfold Au.ok;rw[h];rfl
theorem fI{a:Au}(wf:Zp a){c:Nat}{S:U7}(hs:s<a.n)(hc:c<2^a.tr)(h:a.nx[s]? =some (WE a.tr S r)):((a.go s c:Nat):Int)=Y4 S r c:=by
 obtain⟨q,z,h1,h2,h3,_⟩:=wf.at_ hs hc;rw[h]at h1
 injection h1 with h1
 rw[←h1,Nj S r hc]at h2
 injection h2 with h2
 rw[h2,←h3]
structure H3(st:St)(F:Fp)(dp:Nat)(a:Au)(ka kr:AV)(sp:Nat)(F1:Fp)(S:U7)(roots:List Nat):Prop where
 row:Qx st.h.get dp 0 [ka,kr,.ptr sp 0 0]
 dpF:F dp
 acc:Jg st.h.get [] 1 (bC a.acc) ka
 accF:zF F ka
 rt:Jg st.h.get [] 1 (zC (zN roots)) kr
 rtF:zF F kr
 Kx:AO st.h.get F1 sp a.tr S
 sub: ∀c,F1 c→F c
 wfS:Xn a.tr S
 wf:Zp a
 len:roots.length=a.n
 rts: ∀(s r:Nat),roots[s]? =some r→r<S.length∧a.nx[s]? =some (WE a.tr S r)
 hi: ∀c,F c→c<st.n
theorem UX.x{st:St}{F:Fp}{dp:Nat}{a:Au}(hD:UX st F dp a): ∃ka kr sp F1 S roots,H3 st F dp a ka kr sp F1 S roots:=by
 obtain⟨ka,kr,sp,F1,S,roots,h1,h2,h3,h4,h5,h6,h7,h8,h9,h10,h11,h12⟩:=hD.at_;exact⟨ka,kr,sp,F1,S,roots,h1,h2,h3,h4,h5,h6,h7,h8,h9,h10,h11,h12,hD.hi⟩
section
variable {st st':St} {F:Fp} {dp:Nat} {a:Au} {ka kr:AV} {sp:Nat} {F1:Fp} {S:U7} {roots:List Nat}
theorem H3.q(hX:H3 st F dp a ka kr sp F1 S roots)(q:Qt st st'):H3 st' F dp a ka kr sp F1 S roots:=by
 have e: ∀c,F c→st'.h.get c=st.h.get c:=fun c hc=>q.J9 c (hX.hi c hc);exact⟨hX.row.frame (e dp hX.dpF),hX.dpF,hX.acc.frame fun c m o n y e'=>e c (hX.accF c m o n y e'),hX.accF,hX.rt.frame fun c m o n y e'=>e c (hX.rtF c m o n y e'),hX.rtF,hX.Kx.frame fun c hc=>e c (hX.sub c hc),hX.sub,hX.wfS,hX.wf,hX.len,hX.rts,fun c hc=>Nat.lt_of_lt_of_le (hX.hi c hc) q.le⟩
theorem H3.i(hX:H3 st F dp a ka kr sp F1 S roots):Zm st F1 sp a.tr S:=⟨hX.Kx,fun c hc=>hX.hi c (hX.sub c hc)⟩
end
def Nh(a:Au):Nat→List Int→Option Nat
 |s,[]=>some s
 |s,c::w=>if 0≤c∧c<2^a.tr then Nh a (a.go s c.toNat) w else none
def fe(a:Au):Option Nat→AV
 |some s=>.tup [.int .i64 (s:Nat),.bool (a.ok s)]
 |none=>.tup [.int .i64 (-1),.bool false]
theorem G0{a:Au}{i:Nat}{c:Int}(h:w[i]? =some c):Nh a s (w.drop i)=if 0≤c∧c<2^a.tr then Nh a (a.go s c.toNat) (w.drop (i+1))else none:=by
 obtain⟨h1,h2⟩:=List.getElem?_eq_some_iff.1 h;rw[List.drop_eq_getElem_cons h1,Nh,h2]
theorem Dq(a:Au): ∀(w:List Nat) (s:Nat),X4 a.K w→Nh a s (zN w)=some (a.run s w)
 |[],s,_=>rfl
 |c::w,s,h=>by
  have hc:=h c Q4
  have hc':(c:Int)<2^a.tr:=by
   have h0:c<2^a.tr:=hc;have:=Em a.tr;omega
  show(if 0≤((c:Nat):Int)∧((c:Nat):Int)<2^a.tr then Nh a (a.go s ((c:Nat):Int).toNat) (zN w)else none)=_;rw[if_pos ⟨by omega,hc'⟩,Int.toNat_natCast,Dq a w _ fun x hx=>h x (by simp[hx])];rfl

theorem Ba{st:St}(hf:Qi st){F:Fp}{dp:Nat}{a:Au}{ka kr:AV}{sp:Nat}{F1:Fp}{S:U7}{roots:List Nat}(hX:H3 st F dp a ka kr sp F1 S roots): ∃v st',Jf 63 [.ptr dp 0 0] st v st'∧v=.ptr sp 0 0∧Qt st st':=by
 have wf:=hX.wf;have hen:a.n=a.acc.length:=rfl;have hrl:=hX.len;refine J7 Tryz.func63 Tryz.ntmps63 fun T K=>?_;have M:=Mem.start hf;refine Qb 2 K M fun _ K=>?_;refine p1 K (Yg JX rfl rfl) fun _ K=>?_;refine Qb 4 K M fun _ K=>?_;refine p1 K (Qg rfl (Qw (M.JF Q4 hX.row.Jb) (Qd JJ rfl))) fun _ K=>?_;refine Qb 1 K M ?_;exact⟨rfl,M.qt⟩

theorem Oh{st:St}(hf:Qi st){F:Fp}{dp:Nat}{a:Au}{ka kr:AV}{sp:Nat}{F1:Fp}{S:U7}{roots:List Nat}(hX:H3 st F dp a ka kr sp F1 S roots): ∃v st',Jf 38 [.ptr dp 0 0] st v st'∧v=iZ (a.tr:Nat)∧Qt st st':=by
 have wf:=hX.wf;have hen:a.n=a.acc.length:=rfl;have hrl:=hX.len;refine J7 Tryz.func38 Tryz.ntmps38 fun T K=>?_;have M:=Mem.start hf;refine Qb 2 K M fun _ K=>?_;refine oQ K M (Ba M.fresh (hX.q M.qt)) rfl rfl fun _ _ K M=>?_;refine oQ K M (VL M.fresh (hX.q M.qt).i) rfl rfl fun _ _ K M=>?_;refine Qb 1 K M ?_;exact⟨rfl,M.qt⟩

theorem X1{st:St}(hf:Qi st){F:Fp}{dp:Nat}{a:Au}(hD:UX st F dp a): ∃v st',Jf 38 [.ptr dp 0 0] st v st'∧v=.int .i64 (a.tr:Nat)∧Qt st st':=by
 obtain⟨_,_,_,_,_,_,hX⟩:=hD.x;exact Oh hf hX

theorem Oj{st:St}(hf:Qi st){F:Fp}{dp:Nat}{a:Au}{ka kr:AV}{sp:Nat}{F1:Fp}{S:U7}{roots:List Nat}(hX:H3 st F dp a ka kr sp F1 S roots): ∃v st',Jf 25 [.ptr dp 0 0] st v st'∧v=iZ (a.n:Nat)∧Qt st st':=by
 have wf:=hX.wf;have hen:a.n=a.acc.length:=rfl;have hrl:=hX.len;refine J7 Tryz.func25 Tryz.ntmps25 fun T K=>?_;have M:=Mem.start hf;refine Qb 2 K M fun _ K=>?_;refine p1 K (Yg JX rfl rfl) fun _ K=>?_;refine Qb 4 K M fun _ K=>?_;refine p1 K (Qg rfl (Qw (M.JF Q4 hX.row.Jb) (Qd Um rfl))) fun _ K=>p1 K (Q5 Yb rfl rfl (hX.acc.len.trans (congrArg some (Up _)))) fun _ K=>?_;refine Qb 1 K M ?_;exact⟨rfl,M.qt⟩

theorem Bb{st:St}(hf:Qi st){F:Fp}{dp:Nat}{a:Au}(hD:UX st F dp a): ∃v st',Jf 25 [.ptr dp 0 0] st v st'∧v=.int .i64 (a.n:Nat)∧Qt st st':=by
 obtain⟨_,_,_,_,_,_,hX⟩:=hD.x;exact Oj hf hX

theorem yD{st:St}(hf:Qi st){F:Fp}{dp:Nat}{a:Au}{ka kr:AV}{sp:Nat}{F1:Fp}{S:U7}{roots:List Nat}(hX:H3 st F dp a ka kr sp F1 S roots)(hs:s<a.n): ∃v st',Jf 55 [.ptr dp 0 0,iN s] st v st'∧v=.bool true∧Qt st st':=by
 have wf:=hX.wf;have hen:a.n=a.acc.length:=rfl;have hrl:=hX.len;refine J7 Tryz.func55 Tryz.ntmps55 fun T K=>?_;have M:=Mem.start hf;refine Qb 3 K M fun _ K=>?_;refine Ug K rfl (fun _ e7 K=>?_) fun _ e7 K=>?_
 ·exfalso;omega
 refine Qb 2 K M fun _ K=>?_;obtain⟨v10,st10,ev10,rfl,q10⟩:=Oj M.fresh (hX.q M.qt);refine pg K rfl rfl (Qf rfl ev10) fun _ K=>?_;replace M:=M.quiet q10;refine Qb 3 K M ?_;exact⟨congrArg AV.bool (decide_eq_true Qc),M.qt⟩

theorem Ps{st:St}(hf:Qi st){F:Fp}{dp:Nat}{a:Au}{ka kr:AV}{sp:Nat}{F1:Fp}{S:U7}{roots:List Nat}(hX:H3 st F dp a ka kr sp F1 S roots)(hs:s<a.n): ∃v st',Jf 26 [.ptr dp 0 0,iN s] st v st'∧v=.bool (a.ok s)∧Qt st st':=by
 have wf:=hX.wf;have hen:a.n=a.acc.length:=rfl;have hrl:=hX.len;have hsa:s<a.acc.length:=hs;refine J7 Tryz.func26 Tryz.ntmps26 fun T K=>?_;have M:=Mem.start hf;refine Qb 3 K M fun _ K=>?_;refine oQ K M (yD M.fresh (hX.q M.qt) hs) rfl rfl fun _ _ K M=>?_;refine Qb 4 K M fun _ K=>?_;refine pg K rfl rfl (Qg rfl (Qw (M.JF Q4 hX.row.Jb) (Qd Um rfl))) fun _ K=>?_;refine Qb 1 K M fun _ K=>?_;obtain⟨y14,hi14⟩:=Uy a.acc s Qc;obtain⟨x14,m14,f14,q14,_,la14,lo14,lp14⟩:=(Jg.mem M hX.acc Q4).load (i:=s) (cs:=_) (Ww hi14);refine pg K rfl rfl (Qe (j:=s) J4 (congrArg some q14) rfl (by rw[Up];omega)) fun _ K=>pg K rfl rfl (Qg rfl (lo14 _ 0 _ J6 rfl)) fun _ K=>?_;refine Qb 2 K M ?_;exact⟨congrArg AV.bool (Au.KC hi14).symm,M.qt⟩

theorem VG{st:St}(hf:Qi st){F:Fp}{dp:Nat}{a:Au}(hD:UX st F dp a)(hs:s<a.n): ∃v st',Jf 26 [.ptr dp 0 0,.int .i64 (s:Nat)] st v st'∧v=.bool (a.ok s)∧Qt st st':=by
 obtain⟨_,_,_,_,_,_,hX⟩:=hD.x;exact Ps hf hX hs

theorem yC{st:St}(hf:Qi st){F:Fp}{dp:Nat}{a:Au}{ka kr:AV}{sp:Nat}{F1:Fp}{S:U7}{roots:List Nat}(hX:H3 st F dp a ka kr sp F1 S roots)(hs:s<a.n)(hr:roots[s]? =some r): ∃v st',Jf 83 [.ptr dp 0 0,iN s] st v st'∧v=iN r∧Qt st st':=by
 have wf:=hX.wf;have hen:a.n=a.acc.length:=rfl;have hrl:=hX.len;refine J7 Tryz.func83 Tryz.ntmps83 fun T K=>?_;have M:=Mem.start hf;refine Qb 3 K M fun _ K=>?_;refine oQ K M (yD M.fresh (hX.q M.qt) hs) rfl rfl fun _ _ K M=>?_;refine Qb 5 K M fun _ K=>?_;refine p1 K (Qg rfl (Qw (M.JF Q4 hX.row.Jb) (Qd Ja rfl))) fun _ K=>?_;refine Qb 1 K M fun _ K=>?_;obtain⟨y14,hi14⟩:=Uy roots s Qc;refine oI (Jg.mem M hX.rt Q4) (Xw hi14) K Qo Qn rfl rfl rfl fun _ _ _ _ K=>?_;refine Qb 1 K M ?_
 rw[hr]at hi14;injection hi14 with hi14;subst hi14
 exact⟨rfl,M.qt⟩

theorem zh{st:St}(hf:Qi st){F:Fp}{sp Tn:Nat}{S:U7}(hS:Zm st F sp Tn S)(h6:Tn≤6){i:Nat}(hi:i<S.length){c:Int}(hc:c<0∨((2^Tn:Nat):Int)≤c): ∃v st',Jf 74 [.ptr sp 0 0,iN i,iZ c] st v st'∧v=iZ (-1)∧Qt st st':=by
 have hp:=Nn (show Tn≤62 by omega);refine J7 Tryz.func74 Tryz.ntmps74 fun T K=>?_;have M:=Mem.start hf;refine Qb 3 K M fun _ K=>?_;refine oQ K M (Ki M.fresh (hS.q M.qt) hi) rfl rfl fun _ _ K M=>?_;refine Qb 5 K M fun _ K=>?_;refine Ug K rfl (fun _ e15 K=>?_) fun _ e15 K=>?_
 ·refine Qb 2 K M fun _ K=>?_;obtain⟨v18,st18,ev18,rfl,q18⟩:=VL M.fresh (hS.q M.qt);refine pg K rfl rfl (Qf rfl ev18) fun _ K=>?_;replace M:=M.quiet q18;refine pg K rfl rfl (US (n:=Tn) rfl rfl Qc) fun _ K=>?_;refine Qb 2 K M fun _ K=>?_;refine Jt K rfl (fun h21=>?_) fun h21=>?_
  ·refine Qb 1 K M ?_;exact⟨rfl,M.qt⟩
  exfalso;omega
 refine Qb 8 K M ?_;exact⟨rfl,M.qt⟩

theorem vG{st:St}(hf:Qi st){F:Fp}{sp Tn:Nat}{S:U7}(hS:Zm st F sp Tn S)(h6:Tn≤6)(wf:Xn Tn S){i:Nat}(hi:i<S.length)(c:Int): ∃v st',Jf 74 [.ptr sp 0 0,.int .i64 (i:Nat),.int .i64 c] st v st'∧v=.int .i64 (if 0≤c∧c<2^Tn then Y4 S i c.toNat else-1)∧Qt st st':=by
 have hp:=Em Tn
 by_cases h:0≤c∧c<2^Tn
 ·rw[if_pos h];obtain⟨k,rfl⟩: ∃k:Nat,c=((k:Nat):Int):=⟨c.toNat,by omega⟩;exact Sy hf hS h6 wf hi Qc
 ·rw[if_neg h];exact zh hf hS h6 hi Qc

theorem yB{st:St}(hf:Qi st){F:Fp}{dp:Nat}{a:Au}{ka kr:AV}{sp:Nat}{F1:Fp}{S:U7}{roots:List Nat}(hX:H3 st F dp a ka kr sp F1 S roots)(hs:s<a.n)(c:Int): ∃v st',Jf 57 [.ptr dp 0 0,iN s,iZ c] st v st'∧v=iZ (if 0≤c∧c<2^a.tr then((a.go s c.toNat:Nat):Int)else-1)∧Qt st st':=by
 have wf:=hX.wf;have hen:a.n=a.acc.length:=rfl;have hrl:=hX.len;obtain⟨r,hr⟩:=Uy roots s Qc;obtain⟨hr1,hr2⟩:=hX.rts _ _ hr;refine J7 Tryz.func57 Tryz.ntmps57 fun T K=>?_;have M:=Mem.start hf;refine Qb 2 K M fun _ K=>?_;refine oQ K M (Ba M.fresh (hX.q M.qt)) rfl rfl fun _ _ K M=>?_;refine Qb 2 K M fun _ K=>?_;refine oQ K M (yC M.fresh (hX.q M.qt) hs hr) rfl rfl fun _ _ K M=>?_;refine Qb 1 K M fun _ K=>?_;refine oQ K M (vG M.fresh (hX.q M.qt).i wf.tr hX.wfS hr1 c) rfl rfl fun _ _ K M=>?_;refine Qb 1 K M ?_;refine⟨congrArg (AV.int .i64) ?_,M.qt⟩;have hp:=Em a.tr
 by_cases h:0≤c∧c<2^a.tr
 ·rw[if_pos h,if_pos h,fI wf hs Qc hr2]
 ·rw[if_neg h,if_neg h]

theorem v7{st:St}(hf:Qi st){F:Fp}{dp:Nat}{a:Au}{ka kr:AV}{sp:Nat}{F1:Fp}{S:U7}{roots:List Nat}(hX:H3 st F dp a ka kr sp F1 S roots){kw:AV}(hw:Jg st.h.get [] 1 (zC w) kw): ∃v st',Jf 31 [.ptr dp 0 0,kw] st v st'∧v=fe a (Nh a 0 w)∧Qt st st':=by
 have wf:=hX.wf;have hen:a.n=a.acc.length:=rfl;have hrl:=hX.len
 have hbnw:(w.length:Int)≤9223372036854775807:=by have:=hw.W3;rw[Qp]at this;exact this
 have hps:=wf.pos;have hp:=Em a.tr;refine J7 Tryz.func31 Tryz.ntmps31 fun T K=>?_;have M:=Mem.start hf;refine Qb 3 K M fun _ K=>?_;refine p1 K (Yg JX rfl rfl) fun _ K=>?_;refine Qb 2 K M fun _ K=>?_;refine p1 K (Q5 Je rfl rfl (hw.len.trans (congrArg some (Qp _)))) fun _ K=>?_;refine Qb 1 K M fun _ K=>?_;refine QX (fun mm1 T st9=> ∃(i s:Nat),mm1=w.length-i∧QS [(0,.ptr dp 0 0),(4,iN s),(10,kw),(11,iZ (w.length:Nat)),(12,iN i)] T∧Mem st.h.get st.n [] st9 []∧i≤w.length∧s<a.n∧Nh a 0 w=Nh a s (w.drop i)) (fun mm1 T st9 hI=>?_) _ _ _ ⟨0,0,rfl,(K.sub rfl),M.less (.refl _),(Nat.zero_le _),hps,rfl⟩;obtain⟨i,s,rfl,K,M,hi,hs,hx⟩:=hI;refine Qb 1 K M fun _ K=>?_;refine Jt K rfl (fun h13=>?_) fun h13=>?_
 ·refine Qb 0 K M fun _ K=>?_;obtain⟨y14,hi14⟩:=Uy w i Qc;refine oI (Jg.mem M hw Q4) (Jm hi14) K Qo Qn rfl rfl rfl fun _ _ _ _ K=>?_;refine Qb 4 K M fun _ K=>?_;refine oQ K M (yB M.fresh (hX.q M.qt) hs y14) rfl rfl fun _ _ K M=>?_;refine Qb 1 K M fun _ K=>?_;have hst:0≤y14∧y14<2^a.tr∨ ¬(0≤y14∧y14<2^a.tr):=Classical.em _;refine Qb 2 K M fun _ K=>?_;refine Jt K rfl (fun h21=>?_) fun h21=>?_
  ·refine Qb 2 K M ?_;refine⟨?_,M.qt⟩
   have hy: ¬(0≤y14∧y14<2^a.tr):=fun h=>by rw[if_pos h]at h21;omega
   rw[hx,G0 hi14,if_neg hy];rfl
  refine Qb 2 K M fun _ K=>?_
  have hy:0≤y14∧y14<2^a.tr:=Classical.byContradiction fun h=>by rw[if_neg h]at h21;omega
  rw[if_pos hy]at K;exact⟨_,Qc,i+1,a.go s y14.toNat,rfl,(K.sub rfl),M.less (.refl _),Qc,(wf.UP hs (show y14.toNat<2^a.tr by omega)),(by rw[hx,G0 hi14,if_pos hy])⟩
 refine QK ?_;show W _ _ _ _ _ _ _;refine Jy ?_;have hsa:s<a.acc.length:=hs;refine QA (l:=[(0,0),(1,0),(2,0),(3,0),(4,0),(5,0),(6,0),(7,0),(8,0),(9,0)]) (by kernel_rfl) ?_;refine Jo 4 K M fun _ K=>?_;refine q1 rfl K (Qg rfl (Qw (M.JF Q4 hX.row.Jb) (Qd Um rfl))) fun _ K=>q1 rfl K (Qy rfl) fun _ K=>?_;obtain⟨y29,hi29⟩:=Uy a.acc s Qc;refine dI rfl rfl (Jg.mem M hX.acc Q4) (Ww hi29) K J4 J6 rfl rfl rfl fun _ _ _ _ K=>?_;refine Jo 2 K M fun _ K=>?_;refine QF ?_;show W _ _ _ _ _ _ _;refine Qb 0 K M ?_;refine⟨?_,M.qt⟩;rw[hx,List.drop_eq_nil_of_le Qc,Nh];show _=AV.tup [iN s,.bool (a.ok s)];rw[Au.KC hi29]

theorem eY{st:St}(hf:Qi st){F:Fp}{dp:Nat}{a:Au}(hD:UX st F dp a){kw:AV}(hw:Jg st.h.get [] 1 (zC w) kw): ∃v st',Jf 31 [.ptr dp 0 0,kw] st v st'∧v=fe a (Nh a 0 w)∧Qt st st':=by
 obtain⟨_,_,_,_,_,_,hX⟩:=hD.x;exact v7 hf hX hw
end
section
variable {F:Fp} {a:Au}

def AP(st st':St)(a:Au)(v:AV):Prop:= ∃(ka kn:AV) (vs:List AV) (A:QM) (F:Fp),v=.agg [.int .i64 (a.tr:Nat),ka,kn]∧Acc 0 1 A ka (bC a.acc)∧X3 st'.h.get F kn vs a.nx∧ZP st st' F∧(A.map Prod.fst).Nodup∧ ∀c m l,(c,m,l)∈A→Qx st'.h.get c m l∧st.n≤c∧ ¬F c
theorem Qk.KE{st0 st st':St}{X0:Fp}{M:QM}{Os:List Ob}(B:Qk st0 X0 st M Os)(q:Qt st st'){v:AV}(h:AP st st' a v): ∃ka kn vs A F,v=.agg [.int .i64 (a.tr:Nat),ka,kn]∧Acc 0 1 A ka (bC a.acc)∧Qk st0 X0 st' (M++(A++[])) (Ce F kn vs a.nx::Os):=by
 obtain⟨ka,kn,vs,A,F,h1,h2,h3,h4,h5,h6⟩:=h;have B1:=B.new (o:=Ce F kn vs a.nx) q h3 h4;have hlt: ∀c m l,(c,m,l)∈A→c<st'.n:=fun c m l hm=>(h6 c m l hm).1.lt q.fresh;refine⟨ka,kn,vs,A,F,h1,h2,B1.fresh,B1.le,fun c m l hm=>?_,?_,fun c m l hm=>?_,B1.obj,B1.hi,B1.dj,fun o ho c m l hm hc=>?_,B1.J9⟩
 ·rw[List.append_nil]at hm;rcases List.mem_append.1 hm with hm|hm
  ·exact B1.row c m l hm
  ·exact(h6 c m l hm).1
 ·rw[List.append_nil,List.map_append];refine List.nodup_append.2 ⟨B.nodup,h5,fun x hx y hy e=>?_⟩;subst e;obtain⟨⟨c,m,l⟩,k1,rfl⟩:=List.mem_map.1 hx;obtain⟨⟨c',m',l'⟩,k2,k3⟩:=List.mem_map.1 hy;simp only at k3;subst k3;have:=(B.row _ m l k1).lt B.fresh;have:=(h6 _ m' l' k2).2.1;omega
 ·rw[List.append_nil]at hm;rcases List.mem_append.1 hm with hm|hm
  ·exact B1.lo c m l hm
  ·exact .inl (Nat.le_trans B.le (h6 c m l hm).2.1)
 ·rw[List.append_nil]at hm;rcases List.mem_append.1 hm with hm|hm
  ·exact B1.djM o ho c m l hm hc
  ·rcases List.mem_cons.1 ho with rfl|ho
   ·exact(h6 c m l hm).2.2 hc
   ·have:=(B.hi o ho c hc).1;have:=(h6 c m l hm).2.1;omega
theorem Qk.B5{st0 st:St}{M A:QM}{Os:List Ob}{ka kn:AV}{vs:List AV}(B:Qk st0 ZQ st (M++(A++[])) (Ce F kn vs a.nx::Os))(hA:Acc 0 1 A ka (bC a.acc)):AP st0 st a (.agg [.int .i64 (a.tr:Nat),ka,kn]):=by
 have hn:=B.nodup;rw[List.append_nil,List.map_append]at hn;refine⟨ka,kn,vs,A,F,rfl,hA,B.at_ (k:=0) rfl,B.uA (k:=0) rfl,(List.nodup_append.1 hn).2.1,fun c m l hm=>⟨B.row c m l (by simp[hm]),(B.lo c m l (by simp[hm])).resolve_right id,B.djM _ (List.mem_cons_self ..) c m l (by simp[hm])⟩⟩
section
variable {P:Program} {G:Env} {N:Nat} {h0:Hp} {n0:Nat} {X:List Nat} {st:St} {L A B:U9} {T:Tr AV} {ops:List Oper} {K:List (Nat×AV)} {R:Tr AV→St→Prop} {d:Nat} {ty:TypeId} {pos:String} {af:Array Edge}
theorem zR{sn:List St}{i:Nat}{rr:List (Nat×Nat)}{x y:Operand}{t e:TypeId}{c2 m2 k2:Nat}{ks v:AV}{vs:List AV}(ho:ops[i]? =some ⟨some d,.call {callee:=.builtin .append,args:= #[x,y],argTypes:= #[t,t]},ty,pos,af,none⟩)(hK:QS K T)(hM:Mem h0 n0 X st (L++(A++B)))(hA:YS A ks vs)(S:FU P t e 1)(hx:QT G K x=some ks)(hy:QT G K y=some (.sl c2 m2 0 1 1))(hk:(L++(A++B))[k2]? =some (c2,m2,[v]))(hb:vs.length+1≤1000000000)(hN:Nat.ble (d+1) N=true)
  (hn: ∀(ks':AV) A' T' st',QS ((d,ks')::K) T'→YS A' ks' (vs++[v])→(∀c m l,(c,m,l)∈A'→(∃m l,(c,m,l)∈A)∨st.n≤c)→Mem h0 n0 X st' (L++(A'++B))→WD P G N ops (rr.map (Yo ops)) R T' st' (st'::sn)):WD P G N ops (((i,0)::rr).map (Yo ops)) R T st sn:=by
 obtain⟨ks',A',st1,h1,h2,h3,h4⟩:=hM.wq hA S hk hb;exact LM ho hK (ZL rfl hx hy h1) rfl (Nat.le_of_ble_eq_true hN) fun T' hT'=>hn ks' A' T' st1 hT' h2 h4 h3
end

theorem eX{st:St}(hf:Qi st){dp:Nat}{ka kr:AV}{sp:Nat}{F1:Fp}{S:U7}{roots:List Nat}(hX:H3 st F dp a ka kr sp F1 S roots): ∃v st',Jf 17 [.ptr dp 0 0] st v st'∧AP st st' a v∧Qt st st':=by
 have wf:=hX.wf;have hen:a.n=a.acc.length:=rfl;have hrl:=hX.len;have hmo:=wf.most;have hln:=wf.len;have htr:=wf.tr;have hp64:=JG wf.tr;have B:=Qk.start hf;refine J7 Tryz.func17 Tryz.ntmps17 fun T K=>?_;have M:=B.mem;refine au 2 K M ?_;intro c2 _ _ K _ M;refine p1 K (Yg JX rfl rfl) fun _ K=>?_;refine Qb 1 K M fun _ K=>?_;refine QA (l:=[(0,0),(1,0),(2,0),(3,0),(4,0),(5,1),(6,0),(7,0),(8,0),(9,0)]) (by kernel_rfl) ?_;have Mq:=M;refine q1 rfl K (Qy rfl) fun _ K=>?_;obtain⟨v10,st10,ev10,rfl,q10⟩:=Oh M.fresh (hX.q (B.step M).qt);refine qA rfl K (Qf rfl ev10) fun _ K=>?_;replace M:=M.quiet q10;have Mp:=Mq;have Mq:=M;refine Jo 3 K M fun _ K=>?_;refine Ju rfl K rfl (Qw ((B.step M).U5 hf hX.row.Jb id) (Qd Um rfl)) (Qw ((B.step Mp).U5 hf hX.row.Jb id) (Qd Um rfl)) (JI (Ub (hX.acc.len.trans (congrArg some (Up _))))) rfl Q8 fun _ K=>?_;obtain⟨v15,st15,ev15,ks15,rfl,nr15,q15⟩:=Bh M.fresh ((B.step M).F5 hf hX.acc) Qc;refine qA rfl K (Qf rfl ev15) fun _ K=>?_;obtain⟨A15,hA15,M⟩:=M.Yx q15 nr15;replace hA15:=hA15.z0;simp only[XB]at M;have Mp:=Mq;have Mq:=M;refine q1 rfl K (WJ VV rfl ((Fi rfl rfl rfl).trans ((JB rfl hA15.cell rfl).trans rfl))) fun _ K=>?_;refine W6 rfl K M Y5 Q8 fun c3 _ _ K M=>?_;refine V2 (k:=0) rfl K M rfl rfl rfl Q9 rfl (Qa rfl (Qa hA15.cell (Qa rfl Qz))) rfl fun _ M=>?_;have Mp:=Mq;have Mq:=M;refine QF ?_;show W _ _ _ _ _ _ _;refine Jy<|Jy ?_;replace B:=(B.step M).V9;have M:=B.mem;refine Qb 3 K M fun _ K=>?_;refine p1 K (Qg rfl (Qw ((B.step M).U5 hf hX.row.Jb id) (Qd Ja rfl))) fun _ K=>p1 K (Q5 Je rfl rfl (hX.rt.len.trans (congrArg some (by rw[Qp,List.length_map])))) fun _ K=>?_;refine Qb 1 K M fun _ K=>?_;refine QX (fun mm1 T st9=> ∃(i:Nat) (vs:List AV) (kn:AV) (A:QM) (F:Fp),mm1=roots.length-i∧QS [(0,.ptr dp 0 0),(2,.ptr c2 0 0),(3,.ptr c3 0 0),(20,kr),(21,iZ (roots.length:Nat)),(22,iN i)] T∧Qk st ZQ st9 ((c3,0,[iZ (a.tr:Nat),v15,kn])::(c2,0,[iZ 0,.nils,.nils])::(A15++(A++[]))) [EX F vs (a.nx.take i)]∧YS A kn vs∧i≤roots.length) (fun mm1 T st9 hI=>?_) _ _ _ ⟨0,[],.nils,[],_,rfl,(K.sub rfl),(B.step M).less (.refl _),.none,(Nat.zero_le _)⟩;obtain⟨i,vs,kn,A,F,rfl,K,B,hA4,hi⟩:=hI;have M:=B.mem;refine Qb 1 K M fun _ K=>?_;refine Jt K rfl (fun h23=>?_) fun h23=>?_
 ·refine Qb 0 K M fun _ K=>?_;obtain⟨y24,hi24⟩:=Uy roots i Qc;refine oI ((B.step M).F5 hf hX.rt) (Xw hi24) K Qo Qn rfl rfl rfl fun _ _ _ _ K=>?_;refine Qb 1 K M fun _ K=>?_;refine QA (l:=[(2,0),(3,0),(4,0),(5,0),(6,0),(7,0),(0,0),(1,1),(8,0),(9,0),(10,0),(11,0)]) (by kernel_rfl) ?_;have Mq:=M;refine Jo 3 K M fun _ K=>?_;refine q1 rfl K (Qg rfl (Qw ((B.step M).U5 hf hX.row.Jb id) (Qd JJ rfl))) fun _ K=>q1 rfl K (Qy rfl) fun _ K=>?_;obtain⟨hr1,hr2⟩:=hX.rts _ _ hi24;have hXi:=(hX.q (B.step M).qt).i;obtain⟨v33,st33,ev33,ks33,rfl,nr33,q33⟩:=vF M.fresh hXi wf.tr hX.wfS hr1;refine qA rfl K (Qf rfl ev33) fun _ K=>?_;obtain⟨A33,hA33,M⟩:=M.Yx q33 nr33;replace hA33:=hA33.z0;simp only[XB]at M;have Mp:=Mq;have Mq:=M;refine Jo 1 K M fun _ K=>?_;refine Ju rfl K rfl (M.load (k:=0) rfl (Qd Q7 rfl)) (Mp.load (k:=0) rfl (Qd Q7 rfl)) (JI (Ub hA4.len)) rfl Q8 fun _ K=>?_;refine Xp rfl K M QQ Ut rfl ((JB rfl hA33.cell rfl).trans rfl) (Qa hA33.cell Qz) rfl rfl fun c34 _ _ K M=>?_;refine zR (k2:=0) (L:=((c34,0,[v33])::(c3,0,[iZ (a.tr:Nat),v15,kn])::(c2,0,[iZ 0,.nils,.nils])::(A15++[]))) (B:=(A33++[])) rfl K (Mem.cast M Ux) hA4 QQ rfl rfl rfl (by have:=((B.step M).at_ (k:=0) rfl).ln;rw[List.length_take]at this;omega) rfl fun ks35 A35 _ _ K hA35 _ M=>?_;simp only[XB]at M;refine Jo 1 K M fun _ K=>?_;refine Ze (k:=1) rfl K M rfl rfl rfl Uv (hA35.cell) rfl fun _ M=>?_;have Mp:=Mq;have Mq:=M;refine QF ?_;show W _ _ _ _ _ _ _;refine Qb 2 K M fun _ K=>?_;replace B:=B.step M;obtain⟨Fr,B⟩:=Qk.ZD (L:=((c34,0,[v33])::(c3,0,[iZ (a.tr:Nat),v15,ks35])::(c2,0,[iZ 0,.nils,.nils])::(A15++(A35++[])))) (B:=[]) (B.cast Ux) hA33 (wf.F7 _ (List.mem_of_getElem? hr2));replace B:=B.cast (M':=((c34,0,[v33])::(c3,0,[iZ (a.tr:Nat),v15,ks35])::(c2,0,[iZ 0,.nils,.nils])::(A15++(A35++[])))) Ux
  have htk:a.nx.take i++[WE a.tr S y24]=a.nx.take (i+1):=by rw[List.take_add_one,hr2];rfl
  rw[htk]at B;have M:=B.mem;exact⟨_,Qc,i+1,_,ks35,A35,_,rfl,(K.sub rfl),(B.step M).less (.cons _ (.refl _)),hA35,Qc⟩
 refine QK ?_;show W _ _ _ _ _ _ _;refine Qb 1 K M fun _ K=>?_;refine QU (k:=1) K M rfl rfl rfl Q9 rfl (Qa rfl (Qa hA15.cell (Qa hA4.cell Qz))) rfl fun _ M=>?_;refine Qb 0 K M ?_;refine⟨?_,(B.step M).qt⟩;replace B:=B.step M;have hti:a.nx.take i=a.nx:=List.take_of_length_le Qc;rw[hti]at B;obtain⟨F',B'⟩:=Qk.B6 (L:=((c3,0,[iZ (a.tr:Nat),v15,kn])::(c2,0,[iZ (a.tr:Nat),v15,kn])::A15)) (B:=[]) (B.cast Ux) hA4;exact Qk.B5 (M:=[(c3,0,[iZ (a.tr:Nat),v15,kn]),(c2,0,[iZ (a.tr:Nat),v15,kn])]) (A:=A15) (B'.cast Q4) hA15

theorem Oi{st:St}(hf:Qi st){dp:Nat}(hD:UX st F dp a): ∃v st',Jf 17 [.ptr dp 0 0] st v st'∧AP st st' a v∧Qt st st':=by
 obtain⟨_,_,_,_,_,_,hX⟩:=hD.x;exact eX hf hX
end
section

theorem Wo{α:Type}(f:α→AV){L:List α}{j:Nat}{x:α}(h:L[j]? =some x):nth (L.map f) (0+j *1)=some (f x):=by
 rw[U6,Nat.zero_add,Nat.mul_one,List.getElem?_map,h];rfl
theorem Eo{α:Type}(f:α→AV)(w:α): ∀{L:List α} {j:Nat},j<L.length→Zn [f w] (0+j *1) (L.map f)=some ((L.set j w).map f):=by
 intro L j h;rw[Nat.zero_add,Nat.mul_one]
 induction L generalizing j with
 |nil=>simp at h
 |cons a L ih=>
  cases j with
  |zero=>rfl
  |succ j=>
   rw[List.map_cons,Nu,ih (by simpa using h)];rfl
theorem Kb{α:Type}(f:α→AV)(L:List α):(L.map fun x=>[f x]).flatten=L.map f:=by
 induction L with
 |nil=>rfl
 |cons a L ih=>rw[List.map_cons,List.flatten_cons,ih];rfl
theorem Acc.ua{α:Type}{f:α→AV}{n0:Nat}{A:QM}{ks:AV}{L:List α}(hA:Acc n0 1 A ks (L.map fun x=>[f x]))(hL:0<L.length): ∃c m,ks=.sl c m 0 L.length 1∧A=[(c,m,L.map f)]:=by
 generalize hg:(L.map fun x=>[f x])=ls at hA
 cases hA with
 |none=>have h0:=congrArg List.length hg;rw[List.length_map,List.length_nil]at h0;omega
 |own h1 h2 h3=>
  rename_i c m;subst hg;exact⟨c,m,by rw[List.length_map],by rw[Kb]⟩
theorem Acc.ofM{α:Type}(f:α→AV){c m:Nat}{L:List α}(hb:L.length≤1000000000):Acc 0 1 [(c,m,L.map f)] (.sl c m 0 L.length 1) (L.map fun x=>[f x]):=by
 have:=Acc.own (n0:=0) (z:=1) (c:=c) (m:=m) (ls:=L.map fun x=>[f x]) (Nat.zero_le _) (fun cs hc=>by obtain⟨x,_,rfl⟩:=List.mem_map.1 hc;rfl) (by rw[List.length_map];exact hb);rw[Kb,List.length_map]at this;exact this
theorem Qx.iI{α:Type}{f:α→AV}{h:Hp}{c m n:Nat}{L:List α}(r:Qx h c m (L.map f))(hn:L.length=n)(hb:L.length≤1000000000):Jg h [] 1 (L.map fun x=>[f x]) (.sl c m 0 n 1):=by
 subst hn;have:=Jg.own (X:=[]) (z:=1) (ls:=L.map fun x=>[f x]) (c:=c) (m:=m) (by rw[Kb];exact r) (fun cs hc=>by obtain⟨x,_,rfl⟩:=List.mem_map.1 hc;rfl) Q4 (by rw[List.length_map];omega);rw[List.length_map]at this;exact this
section
variable {P:Program} {G:Env} {N:Nat} {h0:Hp} {n0:Nat} {X:List Nat} {st:St} {M:QM} {T:Tr AV} {ops rest:List Oper} {K:List (Nat×AV)} {R:Tr AV→St→Prop} {d:Nat} {t ty:TypeId} {pos:String} {af:Array Edge}
theorem Dw{α:Type}(z:α): ∀n,Vp n [z]=List.replicate n z
 |0=>rfl
 |n+1=>by rw[List.replicate_succ,←Dw z n];show ZB [z] (Vp n [z])=_;rw[U4];rfl
theorem CJ{α:Type}(f:α→AV)(z:α){x:Operand}{n:Nat}{e:TypeId}(hK:QS K T)(hM:Mem h0 n0 X st M)(S:FU P t e 1)(hz:zeroOf P e=some [f z])(hx:QT G K x=some (.int .i64 (n:Nat)))(hb:n≤1000000000)(hN:Nat.ble (d+1) N=true)
  (hn: ∀(c:Nat) T' st',QS ((d,.sl c 0 0 n 1)::K) T'→Mem h0 n0 X st' ((c,0,(List.replicate n z).map f)::M)→WR P G N ops rest R T' st'):WR P G N ops (⟨some d,.makeSlice t x x,ty,pos,af,none⟩::rest) R T st:=by
 refine EF (v:=.sl st.n 0 0 n 1) (st1:=⟨st.n+1,st.h.set st.n (.row false [(((List.replicate n z).map f).length,0,some ((List.replicate n z).map f))])⟩) hK (.of fun T hT c d ty pos af g=>?_) (Nat.le_of_ble_eq_true hN) fun T' hT'=>hn st.n T' _ hT' (hM.alloc _);show(ob (Jq G T x) fun a=>ob (Jq G T x) fun b=>VB P t a b st)=_;rw[hT.Jq hx,Ql,Ql];unfold VB;have h1:OE ((n:Nat):Int)=some n:=rfl;simp only[S.u,h1,Ql,S.s,QO,hz,S.c];rw[show Nat.beq (Zh [f z]) 1=true from rfl,show Nat.ble 1 (Zh [f z])=true from rfl,Nat.ble_eq_true_of_le (Nat.le_refl n),Nat.ble_eq_true_of_le hb,Nat.ble_eq_true_of_le S.b];simp only[QO,Yd,Jh,Dw,List.map_replicate]
end
end
section
variable {a:Au} {k:Nat} {st:St}

theorem Zp.zO(wf:Zp a){acc:List Bool}(h:acc.length=a.n):Zp ⟨a.tr,acc,a.nx⟩:=⟨wf.tr,by show 1≤acc.length;rw[h];exact wf.pos,by show acc.length≤400;rw[h];exact wf.most,by show a.nx.length=acc.length;rw[h];exact wf.len,fun r hr=>by show r.length=a.K∧ ∀z∈r,0≤z∧z<acc.length;rw[h];exact wf.row r hr⟩
theorem Mem.newRow{st0:St}{M A:QM}{z:Nat}{ks:AV}{ls:List (List AV)}(h:Mem st0.h.get st0.n [] st M)(hA:Acc 0 z A ks ls)(hs: ∀c m l,(c,m,l)∈A→(c,m,l)∈M):ED st0 st z ks ls:=by
 refine⟨A,?_,fun c m l hm=>h.row c m l (hs c m l hm)⟩
 cases hA with
 |none=>exact .none
 |own h1 h2 h3=>exact .own ((h.own _ _ _ (hs _ _ _ (List.mem_cons_self ..))).resolve_right Q4) h2 h3
theorem ja(wf:Zp a)(hk:k<a.tr):2^k<2^a.tr:=Nat.pow_lt_pow_right Q8 hk

theorem RO(hf:Qi st){F:Fp}{dp:Nat}(hD:UX st F dp a)(k:Int): ∃v st',Jf 60 [.ptr dp 0 0,iZ k] st v st'∧v=.bool (decide (0≤k∧k<a.tr))∧Qt st st':=by
 refine J7 Tryz.func60 Tryz.ntmps60 fun T K=>?_;have M:=Mem.start hf;refine Qb 2 K M fun _ K=>?_;refine p1 K (xG JX rfl rfl) fun _ K=>?_;refine Qb 4 K M fun _ K=>?_;refine Ug K rfl (fun _ e11 K=>?_) fun _ e11 K=>?_
 · refine Qb 6 K M ?_;refine⟨congrArg AV.bool ?_,M.qt⟩
   first
    |exact(decide_eq_decide.2 ⟨fun h=>⟨by omega,h⟩,fun h=>h.2⟩)
    |exact(decide_eq_false Qc).symm
 refine Qb 2 K M fun _ K=>?_;obtain⟨v14,st14,ev14,rfl,q14⟩:=X1 M.fresh (hD.q M.qt);refine pg K rfl rfl (Qf rfl ev14) fun _ K=>?_;replace M:=M.quiet q14;refine Qb 3 K M ?_;refine⟨congrArg AV.bool ?_,M.qt⟩
 first
  |exact(decide_eq_decide.2 ⟨fun h=>⟨by omega,h⟩,fun h=>h.2⟩)
  |exact(decide_eq_false Qc).symm

theorem My (hf : Qi st) {F : Fp} {dp : Nat} (hD : UX st F dp a) (hk : k < a.tr) : ∃ v st', Jf 35 [.ptr dp 0 0, iN k] st v st' ∧ ∃ dp2 F2 acc, v = .tup [.ptr dp2 0 0, iZ 0] ∧ EO a k acc ∧ UX st' F2 dp2 ⟨a.tr, acc, a.nx⟩ ∧ ZP st st' F2 ∧ Qt st st' := by
 have wf := hD.wf;have hpk := ja wf hk; have hp64 := JG wf.tr; have hps := wf.pos; have hmo := wf.most; have hln := wf.len; have hen : a.n = a.acc.length := rfl; have htr := wf.tr; have hp0 : 0 < 2 ^ a.tr := Nat.two_pow_pos _;have B := Qk.start hf;refine J7 Tryz.func35 Tryz.ntmps35 fun T K => ?_;have M := B.mem;refine Qb 4 K M fun _ K => ?_;refine oQ K M (RO M.fresh (hD.q M.qt) ((k : Nat) : Int)) rfl rfl fun _ _ K M => ?_;refine Qb 1 K M fun _ K => ?_;refine aS K rfl (fun h13 => ?_) fun h13 => ?_
 · exfalso; omega
 refine Qb 1 K M fun _ K => ?_;replace B := B.step M;obtain ⟨v15, st15, ev15, nau15, q15⟩ := Oi B.fresh (hD.q B.qt);refine p1 K (Qf rfl ev15) fun _ K => ?_;obtain ⟨_, kn, vs, _, Fn, rfl, hAa, B⟩ := B.KE q15 nau15;obtain ⟨ca, ma, rfl, rfl⟩ := Acc.ua (f := AV.bool) (L := a.acc) hAa Qc;have hnc : Qr kn = true := (B.at_ (k := 0) rfl).rd.cell;replace B := B.cast (M' := [(ca, ma, (a.acc.map AV.bool))]) Q4;have M := B.mem;refine au 1 K M ?_;intro c6 _ _ K _ M;refine QU (k := 0) K M rfl rfl rfl Q9 rfl (Qa rfl (Qa rfl (Qa ((B.step M).at_ (k := 0) rfl).rd.cell Qz))) rfl fun _ M => ?_;refine Qb 1 K M fun _ K => ?_;refine QX (fun mm1 T st9 => ∃ (cur : List Bool) (more : Bool), mm1 = I1 cur more ∧ QS [(1, iN k), (4, .nilp), (5, iZ 0), (6, .ptr c6 0 0), (7, .bool more)] T ∧ Qk st ZQ st9 [(c6, 0, [iZ (a.tr : Nat), .sl ca ma 0 a.acc.length 1, kn]), (ca, ma, (cur.map AV.bool))] [Ce Fn kn vs a.nx] ∧ Kq a k cur ∧ (more = false → ∀ s, s < a.n → O6 a k cur s)) (fun mm1 T st9 hI => ?_) _ _ _ ⟨_, true, rfl, (K.sub rfl), (B.step M).less (.refl _), (Kq.start a k), (fun h => by cases h)⟩;obtain ⟨cur, more, rfl, K, B, hinv, hsh⟩ := hI;have M := B.mem;have hcl1 := hinv.len;refine Qb 1 K M fun _ K => ?_;refine Uq K rfl (fun h16 => ?_) fun h16 => ?_
 · have hb16 := h16;refine Qb 2 K M fun _ K => ?_;refine p1 K (Qg rfl (M.load (k := 0) rfl (Qd Q7 rfl))) fun _ K => p1 K (Q5 JS rfl rfl ((B.step M).at_ (k := 0) rfl).len) fun _ K => ?_;refine Qb 1 K M fun _ K => ?_;refine QX (fun mm2 T st9 => ∃ (s : Nat) (cur2 : List Bool) (more2 : Bool), mm2 = a.nx.length - s ∧ QS [(1, iN k), (4, .nilp), (5, iZ 0), (6, .ptr c6 0 0), (7, .bool more2), (18, kn), (19, iZ (a.nx.length : Nat)), (20, iN s)] T ∧ Qk st ZQ st9 [(c6, 0, [iZ (a.tr : Nat), .sl ca ma 0 a.acc.length 1, kn]), (ca, ma, (cur2.map AV.bool))] [Ce Fn kn vs a.nx] ∧ CH a k cur cur2 more2 s ∧ s ≤ a.nx.length) (fun mm2 T st9 hI => ?_) _ _ _ ⟨0, _, _, rfl, (K.sub rfl), (B.step M).less (.refl _), (CH.start hinv), (Nat.zero_le _)⟩;obtain ⟨s, cur2, more2, rfl, K, B, hin, hsi⟩ := hI;have M := B.mem;have hcl2 := hin.inv.len;refine Qb 1 K M fun _ K => ?_;refine Jt K rfl (fun h21 => ?_) fun h21 => ?_
   · refine Qb 1 K M fun _ K => ?_;obtain ⟨s23, hi23⟩ := Uy a.nx s Qc;obtain ⟨w23, hv23, hr23, hz23, hf23⟩ := ((B.step M).at_ (k := 0) rfl).vs.at_ _ _ hi23;have hw23 := wf.row s23 (List.mem_of_getElem? hi23);have hl23 : s23.length = 2 ^ a.tr := hw23.1;refine oI ((B.step M).at_ (k := 0) rfl).rd (by rw [List.getElem?_map, hv23]; rfl) K QY Ja rfl rfl rfl fun _ _ _ _ K => ?_;refine Qb 2 K M fun _ K => ?_;refine QA (l := [(0, 0), (1, 0), (2, 0), (3, 0), (4, 0), (5, 0), (6, 0), (7, 0), (8, 0), (9, 0), (10, 0), (11, 0), (12, 0), (13, 0), (14, 0), (15, 0), (16, 0), (17, 0), (18, 0), (19, 0), (20, 0), (21, 0), (22, 0), (23, 0), (24, 0), (25, 0)]) (by kernel_rfl) ?_;refine Jo 3 K M fun _ K => ?_;obtain ⟨y28, hi28⟩ := Uy cur2 s Qc;refine q1 rfl K (Qe (j := s) J4 rfl rfl Qc) fun _ K => q1 rfl K (Qg rfl (M.load (k := 1) rfl (Qd J6 (Wo AV.bool hi28)))) fun _ K => q1 rfl K (Ny rfl) fun _ K => ?_;refine dB rfl K (Qy rfl) rfl rfl fun b31 _ e31 K => ?_;cases b31
     · replace e31 : (y28) = true := by simpa using e31
       refine YA rfl K rfl rfl rfl rfl fun _ _ K => YA rfl K rfl rfl rfl rfl fun _ _ K => YA rfl K rfl rfl rfl rfl fun _ _ K => YA rfl K rfl rfl rfl rfl fun _ _ K => YA rfl K rfl rfl rfl rfl fun _ _ K => YA rfl K rfl rfl rfl rfl fun _ _ K => YA rfl K rfl rfl rfl rfl fun _ _ K => YA rfl K rfl rfl rfl rfl fun _ _ K => ?_;refine VF rfl K rfl rfl rfl fun _ _ K => ?_;refine VF rfl K rfl rfl rfl fun _ _ K => ?_;refine VF rfl K rfl rfl rfl fun _ _ K => ?_;refine VF rfl K rfl rfl rfl fun _ _ K => ?_;refine VF rfl K rfl rfl rfl fun _ _ K => ?_;refine VF rfl K rfl rfl rfl fun _ _ K => ?_;refine VF rfl K rfl rfl rfl fun _ _ K => ?_;refine VF rfl K rfl rfl rfl fun _ _ K => ?_;refine VF rfl K rfl rfl rfl fun _ _ K => ?_;refine YA rfl K rfl rfl rfl rfl fun _ _ K => ?_;refine Jo 1 K M fun _ K => ?_;refine QF ?_;show W _ _ _ _ _ _ _;refine Qb 3 K M fun _ K => ?_
       have hcin := hin.keep (show O6 a k cur2 s by
         first
         | exact fun _ => by rw [Ym hi28]; exact e31
         | (intro hh
            rcases hh with hh | hh
            · rw [JH hi23 hi35, Ym hi37] at hh; simp_all [Q0, Qs]
            · rw [JH hi23 hi45, Ym hi47] at hh; simp_all [Q0, Qs]))
       exact ⟨_, Qc, s + 1, cur2, more2, rfl, (K.sub rfl), (B.step M).less (.refl _), hcin, Qc⟩
     replace e31 : (y28) = false := by simpa using e31
     refine Jo 3 K M fun _ K => ?_;obtain ⟨y35, hi35⟩ := Uy s23 0 Qc;have hb35 := hw23.2 y35 (List.mem_of_getElem? hi35);obtain ⟨x35, m35, f35, q35, _, la35, lo35, lp35⟩ := hr23.load (i := 0) (cs := _) (Jm hi35);refine dg rfl K rfl rfl (Qe (j := 0) Qo (congrArg some q35) rfl (by rw [Qp]; omega)) rfl rfl fun _ K => dg rfl K rfl rfl (Qg rfl (lo35 _ 0 _ Qn rfl)) rfl rfl fun _ K => ?_;obtain ⟨y37, hi37⟩ := Uy cur2 ((y35).toNat) Qc;refine dg rfl K rfl rfl (Qe (j := (y35).toNat) J4 rfl (congrArg (fun z => some (iZ z)) (by omega : _ = (((y35).toNat : Nat) : Int))) Qc) rfl rfl fun _ K => dg rfl K rfl rfl (Qg rfl (M.load (k := 1) rfl (Qd J6 (Wo AV.bool hi37)))) rfl rfl fun _ K => ?_;refine iM rfl K rfl rfl (Qy rfl) rfl rfl fun b39 _ e39 K => ?_;cases b39
     · refine Jo 4 K M fun _ K => ?_;refine dg rfl K rfl rfl (US (n := k) rfl rfl Qc) rfl rfl fun _ K => ?_;obtain ⟨y45, hi45⟩ := Uy s23 (2 ^ k) Qc;have hb45 := hw23.2 y45 (List.mem_of_getElem? hi45);obtain ⟨x45, m45, f45, q45, _, la45, lo45, lp45⟩ := hr23.load (i := 2 ^ k) (cs := _) (Jm hi45);refine dg rfl K rfl rfl (Qe (j := 2 ^ k) Qo (congrArg some q45) rfl (by rw [Qp]; omega)) rfl rfl fun _ K => dg rfl K rfl rfl (Qg rfl (lo45 _ 0 _ Qn rfl)) rfl rfl fun _ K => ?_;obtain ⟨y47, hi47⟩ := Uy cur2 ((y45).toNat) Qc;refine dg rfl K rfl rfl (Qe (j := (y45).toNat) J4 rfl (congrArg (fun z => some (iZ z)) (by omega : _ = (((y45).toNat : Nat) : Int))) Qc) rfl rfl fun _ K => dg rfl K rfl rfl (Qg rfl (M.load (k := 1) rfl (Qd J6 (Wo AV.bool hi47)))) rfl rfl fun _ K => ?_;refine Jo 2 K M fun _ K => ?_;refine QF ?_;show W _ _ _ _ _ _ _;refine Uq K rfl (fun h50 => ?_) fun h50 => ?_
       · have hb50 := h50;refine Qb 3 K M fun _ K => ?_;obtain ⟨y54, hi54⟩ := Uy cur2 s Qc;refine p1 K (Qe (j := s) J4 rfl rfl Qc) fun _ K => ?_;refine Jk (k := 1) K M rfl rfl rfl AU rfl (Eo AV.bool true Qc) fun _ M => ?_;refine Qb 3 K M fun _ K => ?_
         have hcin := CH.set hin (show s < a.n by omega) (wf.UP (show s < a.n by omega) hp0) (wf.UP (show s < a.n by omega) hpk) (by rw [hi28, e31]) (by
           first
           | exact .inl (by rw [JH hi23 hi35, Ym hi37]; assumption)
           | exact .inr (by rw [JH hi23 hi45, Ym hi47]; simp_all [Q0, Qs]))
         exact ⟨_, Qc, s + 1, (cur2.set s true), true, rfl, (K.sub rfl), (B.step M).less (.refl _), hcin, Qc⟩
       have hb50 := h50;refine Qb 2 K M fun _ K => ?_
       have hcin := hin.keep (show O6 a k cur2 s by
         first
         | exact fun _ => by rw [Ym hi28]; exact e31
         | (intro hh
            rcases hh with hh | hh
            · rw [JH hi23 hi35, Ym hi37] at hh; simp_all [Q0, Qs]
            · rw [JH hi23 hi45, Ym hi47] at hh; simp_all [Q0, Qs]))
       exact ⟨_, Qc, s + 1, cur2, more2, rfl, (K.sub rfl), (B.step M).less (.refl _), hcin, Qc⟩
     refine YA rfl K rfl rfl rfl rfl fun _ _ K => YA rfl K rfl rfl rfl rfl fun _ _ K => YA rfl K rfl rfl rfl rfl fun _ _ K => YA rfl K rfl rfl rfl rfl fun _ _ K => YA rfl K rfl rfl rfl rfl fun _ _ K => YA rfl K rfl rfl rfl rfl fun _ _ K => YA rfl K rfl rfl rfl rfl fun _ _ K => YA rfl K rfl rfl rfl rfl fun _ _ K => YA rfl K rfl rfl rfl rfl fun _ _ K => ?_;refine Jo 2 K M fun _ K => ?_;refine QF ?_;show W _ _ _ _ _ _ _;refine Qb 4 K M fun _ K => ?_;obtain ⟨y54, hi54⟩ := Uy cur2 s Qc;refine p1 K (Qe (j := s) J4 rfl rfl Qc) fun _ K => ?_;refine Jk (k := 1) K M rfl rfl rfl AU rfl (Eo AV.bool true Qc) fun _ M => ?_;refine Qb 3 K M fun _ K => ?_
     have hcin := CH.set hin (show s < a.n by omega) (wf.UP (show s < a.n by omega) hp0) (wf.UP (show s < a.n by omega) hpk) (by rw [hi28, e31]) (by
       first
       | exact .inl (by rw [JH hi23 hi35, Ym hi37]; assumption)
       | exact .inr (by rw [JH hi23 hi45, Ym hi47]; simp_all [Q0, Qs]))
     exact ⟨_, Qc, s + 1, (cur2.set s true), true, rfl, (K.sub rfl), (B.step M).less (.refl _), hcin, Qc⟩
   refine QK ?_
   have hmeas : I1 cur2 more2 < I1 cur more := by rw [show more = true from hb16]; exact hin.fF
   have hsh2 : more2 = false → ∀ s, s < a.n → O6 a k cur2 s := fun e t ht => (hin.no e).1 ▸ ((hin.no e).2 t Qc);exact ⟨_, hmeas, _, _, rfl, (K.sub rfl), (B.step M).less (.refl _), hin.inv, hsh2⟩
 have hb16 := h16;refine QK ?_;show W _ _ _ _ _ _ _;refine Qb 1 K M fun _ K => ?_;replace B := B.step M;have hca := hinv.done wf hpk (hsh (by simpa using hb16));have wf2 := wf.zO (acc := cur) hca.len;obtain ⟨v57, st57, ev57, dp2, F2, rfl, hD2, nf2, q57⟩ := Ed (a := ⟨a.tr, cur, a.nx⟩) B.fresh wf2 (Qx.iI (f := AV.bool) (L := cur) (B.row ca ma _ Q4) Qc Qc) (B.at_ (k := 0) rfl).r;refine p1 K (Qf rfl ev57) fun _ K => ?_;replace B := B.new (o := Iv F2 dp2 ⟨a.tr, cur, a.nx⟩) q57 hD2.at_ nf2;have M := B.mem;refine Qb 4 K M ?_;exact ⟨dp2, F2, cur, rfl, hca, B.qS (k := 0) rfl, (B.step M).uA (k := 0) rfl, (B.step M).qt⟩

theorem Mr (hf : Qi st) (wf : Zp a) {ka kn : AV} {ls : List (List AV)} (hA : Jg st.h.get [] 1 (bC a.acc) ka) (hN : OC st.h.get a.nx kn ls) (hk : k < a.tr) : ∃ v st', Jf 127 [.agg [iZ (a.tr : Nat), ka, kn], iN k] st v st' ∧ ∃ ka2 acc, v = .agg [iZ (a.tr : Nat), ka2, kn] ∧ EO a k acc ∧ ED st st' 1 ka2 (bC acc) ∧ Qt st st' := by
 have hpk := ja wf hk; have hp64 := JG wf.tr; have hps := wf.pos; have hmo := wf.most; have hln := wf.len; have hen : a.n = a.acc.length := rfl; have htr := wf.tr; have hp0 : 0 < 2 ^ a.tr := Nat.two_pow_pos _;have hac := hA.cell; have hnc := hN.r.cell;refine J7 Tryz.func127 Tryz.ntmps127 fun T K => ?_;have M := Mem.start hf;refine Qb 0 K M fun _ K => ?_;refine Jv K M rfl (Qa rfl (Qa hA.cell (Qa hN.r.cell Qz))) Q8 fun c2 _ _ K M => ?_;refine au 1 K M ?_;intro c4 _ _ K _ M;refine QA (l := [(2, 0), (3, 0), (4, 0), (5, 0), (0, 0), (1, 1), (6, 0), (7, 1), (8, 0), (9, 0), (10, 0)]) (by kernel_rfl) ?_;have Mq := M;refine Xp rfl K M J3 Vk rfl rfl rfl rfl rfl fun c10 _ _ K M => ?_;refine Jo 2 K M fun _ K => ?_;replace M := Mem.cast (M' := ((c4, 0, [iZ 0, .nils, .nils]) :: (c2, 0, [iZ (a.tr : Nat), ka, kn]) :: ([(c10, 0, [])] ++ []))) (Mem.perm M (List.perm_append_comm (α := Nat × Nat × List AV) (l₁ := [(c10, 0, [])]) (l₂ := [(c4, 0, [iZ 0, .nils, .nils]), (c2, 0, [iZ (a.tr : Nat), ka, kn])]))) Ux;have hA0c10 : Acc st.n 1 [(c10, 0, [])] (.sl c10 0 0 0 1) [] := Acc.own (n0 := st.n) (z := 1) (c := c10) (m := 0) (ls := []) ((M.own c10 0 [] Q4).resolve_right Q4) Q4 Q4;refine Ef (L := [(c4, 0, [iZ 0, .nils, .nils]), (c2, 0, [iZ (a.tr : Nat), ka, kn])]) (A := [(c10, 0, [])]) (B := []) rfl K M hA0c10 J3 rfl rfl (Jg.mem M hA Q4) (zg _) (by simp only [List.length_nil, Up]; omega) rfl fun ks13 A13 _ _ K hA13 M => ?_;have Mp := Mq;have Mq := M;refine Jo 1 K M fun _ K => ?_;refine Ju rfl K rfl (M.load (k := 1) rfl (Qd Qn rfl)) (Mp.load (k := 1) rfl (Qd Qn rfl)) (JI rfl) rfl Q8 fun _ K => ?_;refine Jo 1 K M fun _ K => ?_;refine Ju rfl K rfl (M.load (k := 1) rfl (Qd Q7 rfl)) (Mp.load (k := 1) rfl (Qd Q7 rfl)) (JI (Ub hN.len)) rfl Q8 fun _ K => ?_;refine q1 rfl K (WJ VV rfl ((Fi rfl rfl rfl).trans ((JB rfl hA13.cell rfl).trans ((JB rfl hN.r.cell rfl).trans rfl)))) fun _ K => ?_;refine W6 rfl K M Y5 Q8 fun c5 _ _ K M => ?_;refine V2 (k := 0) rfl K M rfl rfl rfl Q9 rfl (Qa rfl (Qa hA13.cell (Qa hN.r.cell Qz))) rfl fun _ M => ?_;have Mp := Mq;have Mq := M;refine QF ?_;show W _ _ _ _ _ _ _;refine Jy <| Jy ?_;obtain ⟨ca, ma, rfl, rfl⟩ := Acc.ua (f := AV.bool) (L := a.acc) hA13 Qc;replace M := Mem.cast (M' := [(c5, 0, [iZ (a.tr : Nat), .sl ca ma 0 a.acc.length 1, kn]), (c4, 0, [iZ 0, .nils, .nils]), (c2, 0, [iZ (a.tr : Nat), ka, kn]), (ca, ma, (a.acc.map AV.bool))]) M Q4;refine Qb 1 K M fun _ K => ?_;refine QX (fun mm1 T st9 => ∃ (cur : List Bool) (more : Bool), mm1 = I1 cur more ∧ QS [(1, iN k), (2, .ptr c2 0 0), (4, .ptr c4 0 0), (5, .ptr c5 0 0), (6, .bool more)] T ∧ Mem st.h.get st.n [] st9 [(c5, 0, [iZ (a.tr : Nat), .sl ca ma 0 a.acc.length 1, kn]), (c4, 0, [iZ 0, .nils, .nils]), (c2, 0, [iZ (a.tr : Nat), ka, kn]), (ca, ma, (cur.map AV.bool))] ∧ Kq a k cur ∧ (more = false → ∀ s, s < a.n → O6 a k cur s)) (fun mm1 T st9 hI => ?_) _ _ _ ⟨_, true, rfl, (K.sub rfl), M.less (.refl _), (Kq.start a k), (fun h => by cases h)⟩;obtain ⟨cur, more, rfl, K, M, hinv, hsh⟩ := hI;have hcl1 := hinv.len;refine Qb 1 K M fun _ K => ?_;refine Uq K rfl (fun h17 => ?_) fun h17 => ?_
 · have hb17 := h17;refine Qb 2 K M fun _ K => ?_;refine QX (fun mm2 T st9 => ∃ (s : Nat) (cur2 : List Bool) (more2 : Bool), mm2 = a.nx.length - s ∧ QS [(1, iN k), (2, .ptr c2 0 0), (4, .ptr c4 0 0), (5, .ptr c5 0 0), (6, .bool more2), (7, iN s)] T ∧ Mem st.h.get st.n [] st9 [(c5, 0, [iZ (a.tr : Nat), .sl ca ma 0 a.acc.length 1, kn]), (c4, 0, [iZ 0, .nils, .nils]), (c2, 0, [iZ (a.tr : Nat), ka, kn]), (ca, ma, (cur2.map AV.bool))] ∧ CH a k cur cur2 more2 s ∧ s ≤ a.nx.length) (fun mm2 T st9 hI => ?_) _ _ _ ⟨0, _, _, rfl, (K.sub rfl), M.less (.refl _), (CH.start hinv), (Nat.zero_le _)⟩;obtain ⟨s, cur2, more2, rfl, K, M, hin, hsi⟩ := hI;have hcl2 := hin.inv.len;refine Qb 5 K M fun _ K => ?_;refine Jt K rfl (fun h22 => ?_) fun h22 => ?_
   · refine Qb 0 K M fun _ K => ?_;refine QA (l := [(0, 0), (1, 0), (2, 0), (3, 0), (4, 0), (5, 0), (6, 0), (7, 0), (8, 0), (9, 0), (10, 0), (11, 0), (12, 0), (13, 0), (14, 0), (15, 0), (16, 0), (17, 0), (18, 0), (19, 0), (20, 0), (21, 0), (22, 0), (23, 0), (24, 0), (25, 0), (26, 0), (27, 0), (28, 0), (29, 0), (30, 0), (31, 0), (32, 0), (33, 0), (34, 0)]) (by kernel_rfl) ?_;refine Jo 3 K M fun _ K => ?_;obtain ⟨y28, hi28⟩ := Uy cur2 s Qc;refine q1 rfl K (Qe (j := s) J4 rfl rfl Qc) fun _ K => q1 rfl K (Qg rfl (M.load (k := 3) rfl (Qd J6 (Wo AV.bool hi28)))) fun _ K => q1 rfl K (Ny rfl) fun _ K => ?_;refine dB rfl K (Qy rfl) rfl rfl fun b31 _ e31 K => ?_;cases b31
     · replace e31 : (y28) = true := by simpa using e31
       refine YA rfl K rfl rfl rfl rfl fun _ _ K => YA rfl K rfl rfl rfl rfl fun _ _ K => YA rfl K rfl rfl rfl rfl fun _ _ K => YA rfl K rfl rfl rfl rfl fun _ _ K => YA rfl K rfl rfl rfl rfl fun _ _ K => YA rfl K rfl rfl rfl rfl fun _ _ K => YA rfl K rfl rfl rfl rfl fun _ _ K => YA rfl K rfl rfl rfl rfl fun _ _ K => YA rfl K rfl rfl rfl rfl fun _ _ K => ?_;refine YA rfl K rfl rfl rfl rfl fun _ _ K => YA rfl K rfl rfl rfl rfl fun _ _ K => YA rfl K rfl rfl rfl rfl fun _ _ K => ?_;refine VF rfl K rfl rfl rfl fun _ _ K => ?_;refine VF rfl K rfl rfl rfl fun _ _ K => ?_;refine VF rfl K rfl rfl rfl fun _ _ K => ?_;refine VF rfl K rfl rfl rfl fun _ _ K => ?_;refine VF rfl K rfl rfl rfl fun _ _ K => ?_;refine VF rfl K rfl rfl rfl fun _ _ K => ?_;refine VF rfl K rfl rfl rfl fun _ _ K => ?_;refine VF rfl K rfl rfl rfl fun _ _ K => ?_;refine VF rfl K rfl rfl rfl fun _ _ K => ?_;refine VF rfl K rfl rfl rfl fun _ _ K => ?_;refine VF rfl K rfl rfl rfl fun _ _ K => ?_;refine VF rfl K rfl rfl rfl fun _ _ K => ?_;refine VF rfl K rfl rfl rfl fun _ _ K => ?_;refine VF rfl K rfl rfl rfl fun _ _ K => ?_;refine YA rfl K rfl rfl rfl rfl fun _ _ K => ?_;refine Jo 1 K M fun _ K => ?_;refine QF ?_;show W _ _ _ _ _ _ _;refine Qb 4 K M fun _ K => ?_
       have hcin := hin.keep (show O6 a k cur2 s by
         first
         | exact fun _ => by rw [Ym hi28]; exact e31
         | (intro hh
            rcases hh with hh | hh
            · rw [JH hi37 hi39, Ym hi41] at hh; simp_all [Q0, Qs]
            · rw [JH hi49 hi54, Ym hi56] at hh; simp_all [Q0, Qs]))
       exact ⟨_, Qc, s + 1, cur2, more2, rfl, (K.sub rfl), M.less (.refl _), hcin, Qc⟩
     replace e31 : (y28) = false := by simpa using e31
     refine Jo 3 K M fun _ K => ?_;refine dg rfl K rfl rfl (Qg rfl (M.load (k := 2) rfl (Qd Q7 rfl))) rfl rfl fun _ K => ?_;refine Jo 1 K M fun _ K => ?_;obtain ⟨s37, hi37⟩ := Uy a.nx s Qc;obtain ⟨_, hc37, w37, rfl, hr37, hz37⟩ := hN.at_ _ _ hi37;have hw37 := wf.row s37 (List.mem_of_getElem? hi37);have hl37 : s37.length = 2 ^ a.tr := hw37.1;obtain ⟨x37, m37, f37, q37, _, la37, lo37, lp37⟩ := (Jg.mem M hN.r Q4).load (i := s) (cs := _) hc37;refine dg rfl K rfl rfl (Qe (j := s) QY (congrArg some q37) rfl (by rw [hN.ln]; omega)) rfl rfl fun _ K => dg rfl K rfl rfl (Qg rfl (lo37 _ 0 _ Ja rfl)) rfl rfl fun _ K => ?_;obtain ⟨y39, hi39⟩ := Uy s37 0 Qc;have hb39 := hw37.2 y39 (List.mem_of_getElem? hi39);obtain ⟨x39, m39, f39, q39, _, la39, lo39, lp39⟩ := (Jg.mem M hr37 Q4).load (i := 0) (cs := _) (Jm hi39);refine dg rfl K rfl rfl (Qe (j := 0) Qo (congrArg some q39) rfl (by rw [Qp]; omega)) rfl rfl fun _ K => dg rfl K rfl rfl (Qg rfl (lo39 _ 0 _ Qn rfl)) rfl rfl fun _ K => ?_;obtain ⟨y41, hi41⟩ := Uy cur2 ((y39).toNat) Qc;refine dg rfl K rfl rfl (Qe (j := (y39).toNat) J4 rfl (congrArg (fun z => some (iZ z)) (by omega : _ = (((y39).toNat : Nat) : Int))) Qc) rfl rfl fun _ K => dg rfl K rfl rfl (Qg rfl (M.load (k := 3) rfl (Qd J6 (Wo AV.bool hi41)))) rfl rfl fun _ K => ?_;refine iM rfl K rfl rfl (Qy rfl) rfl rfl fun b43 _ e43 K => ?_;cases b43
     · refine Jo 3 K M fun _ K => ?_;refine dg rfl K rfl rfl (Qg rfl (M.load (k := 2) rfl (Qd Q7 rfl))) rfl rfl fun _ K => ?_;refine Jo 1 K M fun _ K => ?_;obtain ⟨s49, hi49⟩ := Uy a.nx s Qc;obtain ⟨_, hc49, w49, rfl, hr49, hz49⟩ := hN.at_ _ _ hi49;have hw49 := wf.row s49 (List.mem_of_getElem? hi49);have hl49 : s49.length = 2 ^ a.tr := hw49.1;obtain ⟨x49, m49, f49, q49, _, la49, lo49, lp49⟩ := (Jg.mem M hN.r Q4).load (i := s) (cs := _) hc49;refine dg rfl K rfl rfl (Qe (j := s) QY (congrArg some q49) rfl (by rw [hN.ln]; omega)) rfl rfl fun _ K => dg rfl K rfl rfl (Qg rfl (lo49 _ 0 _ Ja rfl)) rfl rfl fun _ K => ?_;refine Jo 1 K M fun _ K => ?_;refine dg rfl K rfl rfl (U8 (c := ((k : Nat) : Int)) UR Uz rfl (IntWalk.u64_in _ Qc)) rfl rfl fun _ K => dg rfl K rfl rfl (US (n := k) rfl rfl Qc) rfl rfl fun _ K => ?_;obtain ⟨y54, hi54⟩ := Uy s49 (2 ^ k) Qc;have hb54 := hw49.2 y54 (List.mem_of_getElem? hi54);obtain ⟨x54, m54, f54, q54, _, la54, lo54, lp54⟩ := (Jg.mem M hr49 Q4).load (i := 2 ^ k) (cs := _) (Jm hi54);refine dg rfl K rfl rfl (Qe (j := 2 ^ k) Qo (congrArg some q54) rfl (by rw [Qp]; omega)) rfl rfl fun _ K => dg rfl K rfl rfl (Qg rfl (lo54 _ 0 _ Qn rfl)) rfl rfl fun _ K => ?_;obtain ⟨y56, hi56⟩ := Uy cur2 ((y54).toNat) Qc;refine dg rfl K rfl rfl (Qe (j := (y54).toNat) J4 rfl (congrArg (fun z => some (iZ z)) (by omega : _ = (((y54).toNat : Nat) : Int))) Qc) rfl rfl fun _ K => dg rfl K rfl rfl (Qg rfl (M.load (k := 3) rfl (Qd J6 (Wo AV.bool hi56)))) rfl rfl fun _ K => ?_;refine Jo 2 K M fun _ K => ?_;refine QF ?_;show W _ _ _ _ _ _ _;refine Uq K rfl (fun h59 => ?_) fun h59 => ?_
       · have hb59 := h59;refine Qb 3 K M fun _ K => ?_;obtain ⟨y63, hi63⟩ := Uy cur2 s Qc;refine p1 K (Qe (j := s) J4 rfl rfl Qc) fun _ K => ?_;refine Jk (k := 3) K M rfl rfl rfl AU rfl (Eo AV.bool true Qc) fun _ M => ?_;refine Qb 4 K M fun _ K => ?_
         have hcin := CH.set hin (show s < a.n by omega) (wf.UP (show s < a.n by omega) hp0) (wf.UP (show s < a.n by omega) hpk) (by rw [hi28, e31]) (by
           first
           | exact .inl (by rw [JH hi37 hi39, Ym hi41]; assumption)
           | exact .inr (by rw [JH hi49 hi54, Ym hi56]; simp_all [Q0, Qs]))
         exact ⟨_, Qc, s + 1, (cur2.set s true), true, rfl, (K.sub rfl), M.less (.refl _), hcin, Qc⟩
       have hb59 := h59;refine Qb 3 K M fun _ K => ?_
       have hcin := hin.keep (show O6 a k cur2 s by
         first
         | exact fun _ => by rw [Ym hi28]; exact e31
         | (intro hh
            rcases hh with hh | hh
            · rw [JH hi37 hi39, Ym hi41] at hh; simp_all [Q0, Qs]
            · rw [JH hi49 hi54, Ym hi56] at hh; simp_all [Q0, Qs]))
       exact ⟨_, Qc, s + 1, cur2, more2, rfl, (K.sub rfl), M.less (.refl _), hcin, Qc⟩
     refine YA rfl K rfl rfl rfl rfl fun _ _ K => YA rfl K rfl rfl rfl rfl fun _ _ K => YA rfl K rfl rfl rfl rfl fun _ _ K => YA rfl K rfl rfl rfl rfl fun _ _ K => YA rfl K rfl rfl rfl rfl fun _ _ K => YA rfl K rfl rfl rfl rfl fun _ _ K => YA rfl K rfl rfl rfl rfl fun _ _ K => YA rfl K rfl rfl rfl rfl fun _ _ K => YA rfl K rfl rfl rfl rfl fun _ _ K => ?_;refine YA rfl K rfl rfl rfl rfl fun _ _ K => YA rfl K rfl rfl rfl rfl fun _ _ K => YA rfl K rfl rfl rfl rfl fun _ _ K => YA rfl K rfl rfl rfl rfl fun _ _ K => YA rfl K rfl rfl rfl rfl fun _ _ K => ?_;refine Jo 2 K M fun _ K => ?_;refine QF ?_;show W _ _ _ _ _ _ _;refine Qb 4 K M fun _ K => ?_;obtain ⟨y63, hi63⟩ := Uy cur2 s Qc;refine p1 K (Qe (j := s) J4 rfl rfl Qc) fun _ K => ?_;refine Jk (k := 3) K M rfl rfl rfl AU rfl (Eo AV.bool true Qc) fun _ M => ?_;refine Qb 4 K M fun _ K => ?_
     have hcin := CH.set hin (show s < a.n by omega) (wf.UP (show s < a.n by omega) hp0) (wf.UP (show s < a.n by omega) hpk) (by rw [hi28, e31]) (by
       first
       | exact .inl (by rw [JH hi37 hi39, Ym hi41]; assumption)
       | exact .inr (by rw [JH hi49 hi54, Ym hi56]; simp_all [Q0, Qs]))
     exact ⟨_, Qc, s + 1, (cur2.set s true), true, rfl, (K.sub rfl), M.less (.refl _), hcin, Qc⟩
   refine QK ?_
   have hmeas : I1 cur2 more2 < I1 cur more := by rw [show more = true from hb17]; exact hin.fF
   have hsh2 : more2 = false → ∀ s, s < a.n → O6 a k cur2 s := fun e t ht => (hin.no e).1 ▸ ((hin.no e).2 t Qc);exact ⟨_, hmeas, _, _, rfl, (K.sub rfl), M.less (.refl _), hin.inv, hsh2⟩
 have hb17 := h17;refine QK ?_;show W _ _ _ _ _ _ _;refine Qb 1 K M fun _ K => ?_;refine QU (k := 1) K M rfl rfl rfl Q9 rfl (Qa rfl (Qa rfl (Qa hN.r.cell Qz))) rfl fun _ M => ?_;refine Qb 0 K M ?_;refine ⟨_, cur, rfl, hinv.done wf hpk (hsh (by simpa using hb17)), ?_, M.qt⟩;have hA9 := Acc.ofM AV.bool (c := ca) (m := ma) (L := cur) Qc;rw [show cur.length = a.acc.length from hcl1] at hA9;exact M.newRow hA9 (fun c m l h => by simp at h; obtain ⟨rfl, rfl, rfl⟩ := h; simp)
end
end Go.Proofs.YtiknomepbklibaaGreatDoor
