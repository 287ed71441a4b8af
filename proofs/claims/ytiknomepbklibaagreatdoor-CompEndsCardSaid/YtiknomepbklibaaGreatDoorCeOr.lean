/-
  Automata: looked at.
-/
import Derived.Test.YtiknomepbklibaaGreatDoorCeAuB
set_option maxHeartbeats 8000000
set_option maxRecDepth 100000
set_option linter.unnecessarySimpa false
set_option linter.unusedSimpArgs false
set_option linter.unusedVariables false
section
namespace Go.Proofs.YtiknomepbklibaaGreatDoor
open Go Go.RowKit
variable {r s:Nat} {w:List Int}

theorem EB{l:List Nat}{i:Nat}(h:l[i]? =some r):(zC (zN l))[i]? =some [.int .i64 (r:Nat)]:=Jo (by rw[List.getElem?_map,h];rfl)
theorem Au.Kh{a:Au}{b:Bool}(h:a.acc[s]? =some b):a.ok s=b:=by unfold Au.ok;rw[h];rfl
theorem ah{a:Au}(wf:Zl a){c:Nat}{S:U6}(hs:s<a.n)(hc:c<2^a.tr)(h:a.nx[s]? =some (Wx a.tr S r)):((a.go s c:Nat):Int)=Y2 S r c:=by
 obtain⟨q,z,h1,h2,h3,_⟩:=wf.at_ hs hc;rw[h]at h1
 injection h1 with h1
 rw[←h1,LI S r hc]at h2
 injection h2 with h2
 rw[h2,←h3]
structure Hb(st:St)(F:Fp)(dp:Nat)(a:Au)(ka kr:AV)(sp:Nat)(F1:Fp)(S:U6)(roots:List Nat):Prop where
 row:Q4 st.h.get dp 0 [ka,kr,.ptr sp 0 0]
 dpF:F dp
 acc:Jj st.h.get [] 1 (bC a.acc) ka
 accF:yQ F ka
 rt:Jj st.h.get [] 1 (zC (zN roots)) kr
 rtF:yQ F kr
 Kc:A5 st.h.get F1 sp a.tr S
 sub: ∀c,F1 c→F c
 wfS:Xb a.tr S
 wf:Zl a
 len:roots.length=a.n
 rts: ∀(s r:Nat),roots[s]? =some r→r<S.length∧a.nx[s]? =some (Wx a.tr S r)
 hi: ∀c,F c→c<st.n
theorem UT.x{st:St}{F:Fp}{dp:Nat}{a:Au}(hD:UT st F dp a): ∃ka kr sp F1 S roots,Hb st F dp a ka kr sp F1 S roots:=by
 obtain⟨ka,kr,sp,F1,S,roots,h1,h2,h3,h4,h5,h6,h7,h8,h9,h10,h11,h12⟩:=hD.at_;exact⟨ka,kr,sp,F1,S,roots,h1,h2,h3,h4,h5,h6,h7,h8,h9,h10,h11,h12,hD.hi⟩
section
variable {st st':St} {F:Fp} {dp:Nat} {a:Au} {ka kr:AV} {sp:Nat} {F1:Fp} {S:U6} {roots:List Nat}
theorem Hb.q(hX:Hb st F dp a ka kr sp F1 S roots)(q:Qt st st'):Hb st' F dp a ka kr sp F1 S roots:=by
 have e: ∀c,F c→st'.h.get c=st.h.get c:=fun c hc=>q.J5 c (hX.hi c hc);exact⟨hX.row.frame (e dp hX.dpF),hX.dpF,hX.acc.frame fun c m o n y e'=>e c (hX.accF c m o n y e'),hX.accF,hX.rt.frame fun c m o n y e'=>e c (hX.rtF c m o n y e'),hX.rtF,hX.Kc.frame fun c hc=>e c (hX.sub c hc),hX.sub,hX.wfS,hX.wf,hX.len,hX.rts,fun c hc=>Nat.lt_of_lt_of_le (hX.hi c hc) q.le⟩
theorem Hb.i(hX:Hb st F dp a ka kr sp F1 S roots):Zm st F1 sp a.tr S:=⟨hX.Kc,fun c hc=>hX.hi c (hX.sub c hc)⟩
end
def X7(a:Au):Nat→List Int→Option Nat
 |s,[]=>some s
 |s,c::w=>if 0≤c∧c<2^a.tr then X7 a (a.go s c.toNat) w else none
def vJ(a:Au):Option Nat→AV
 |some s=>.tup [.int .i64 (s:Nat),.bool (a.ok s)]
 |none=>.tup [.int .i64 (-1),.bool false]
theorem Ge{a:Au}{i:Nat}{c:Int}(h:w[i]? =some c):X7 a s (w.drop i)=if 0≤c∧c<2^a.tr then X7 a (a.go s c.toNat) (w.drop (i+1))else none:=by
 obtain⟨h1,h2⟩:=List.getElem?_eq_some_iff.1 h;rw[List.drop_eq_getElem_cons h1,X7,h2]
theorem GD{st:St}(hf:Qj st){F:Fp}{dp:Nat}{a:Au}{ka kr:AV}{sp:Nat}{F1:Fp}{S:U6}{roots:List Nat}(hX:Hb st F dp a ka kr sp F1 S roots): ∃v st',Ev Tryz.prog Q0 63 [.ptr dp 0 0] st v st'∧v=.ptr sp 0 0∧Qt st st':=by
 have wf:=hX.wf;have hen:a.n=a.acc.length:=rfl;have hrl:=hX.len;refine JB Tryz.func63 Tryz.ntmps63 fun T K=>?_;have M:=Mem.start hf;refine Qc 2 K M ?_;intro _ K;refine p1 K (Yc JX rfl rfl) fun _ K=>?_;refine Qc 4 K M ?_;intro _ K;refine p1 K (Qd rfl (Qz (M.JE Q7 hX.row.Jb) (Qf JJ rfl))) fun _ K=>?_;refine Qc 1 K M ?_;exact⟨rfl,M.qt⟩

theorem NG{st:St}(hf:Qj st){F:Fp}{dp:Nat}{a:Au}{ka kr:AV}{sp:Nat}{F1:Fp}{S:U6}{roots:List Nat}(hX:Hb st F dp a ka kr sp F1 S roots): ∃v st',Ev Tryz.prog Q0 38 [.ptr dp 0 0] st v st'∧v=iZ (a.tr:Nat)∧Qt st st':=by
 have wf:=hX.wf;have hen:a.n=a.acc.length:=rfl;have hrl:=hX.len;refine JB Tryz.func38 Tryz.ntmps38 fun T K=>?_;have M:=Mem.start hf;refine Qc 2 K M ?_;intro _ K;refine oQ K M (GD M.fresh (hX.q M.qt)) rfl rfl fun _ _ K M=>?_;refine oQ K M (VA M.fresh (hX.q M.qt).i) rfl rfl fun _ _ K M=>?_;refine Qc 1 K M ?_;exact⟨rfl,M.qt⟩

theorem Xm{st:St}(hf:Qj st){F:Fp}{dp:Nat}{a:Au}(hD:UT st F dp a): ∃v st',Ev Tryz.prog Q0 38 [.ptr dp 0 0] st v st'∧v=.int .i64 (a.tr:Nat)∧Qt st st':=by
 obtain⟨_,_,_,_,_,_,hX⟩:=hD.x;exact NG hf hX

theorem NI{st:St}(hf:Qj st){F:Fp}{dp:Nat}{a:Au}{ka kr:AV}{sp:Nat}{F1:Fp}{S:U6}{roots:List Nat}(hX:Hb st F dp a ka kr sp F1 S roots): ∃v st',Ev Tryz.prog Q0 25 [.ptr dp 0 0] st v st'∧v=iZ (a.n:Nat)∧Qt st st':=by
 have wf:=hX.wf;have hen:a.n=a.acc.length:=rfl;have hrl:=hX.len;refine JB Tryz.func25 Tryz.ntmps25 fun T K=>?_;have M:=Mem.start hf;refine Qc 2 K M ?_;intro _ K;refine p1 K (Yc JX rfl rfl) fun _ K=>?_;refine Qc 4 K M ?_;intro _ K;refine p1 K (Qd rfl (Qz (M.JE Q7 hX.row.Jb) (Qf Uj rfl))) fun _ K=>p1 K (QA UX rfl rfl (hX.acc.len.trans (congrArg some (JH _)))) fun _ K=>?_;refine Qc 1 K M ?_;exact⟨rfl,M.qt⟩

theorem GF{st:St}(hf:Qj st){F:Fp}{dp:Nat}{a:Au}(hD:UT st F dp a): ∃v st',Ev Tryz.prog Q0 25 [.ptr dp 0 0] st v st'∧v=.int .i64 (a.n:Nat)∧Qt st st':=by
 obtain⟨_,_,_,_,_,_,hX⟩:=hD.x;exact NI hf hX

theorem uZ{st:St}(hf:Qj st){F:Fp}{dp:Nat}{a:Au}{ka kr:AV}{sp:Nat}{F1:Fp}{S:U6}{roots:List Nat}(hX:Hb st F dp a ka kr sp F1 S roots)(hs:s<a.n): ∃v st',Ev Tryz.prog Q0 55 [.ptr dp 0 0,iN s] st v st'∧v=.bool true∧Qt st st':=by
 have wf:=hX.wf;have hen:a.n=a.acc.length:=rfl;have hrl:=hX.len;refine JB Tryz.func55 Tryz.ntmps55 fun T K=>?_;have M:=Mem.start hf;refine Qc 3 K M ?_;intro _ K;refine Un K (Qg rfl) rfl (fun _ e7 K=>?_) fun _ e7 K=>?_
 ·exfalso;omega
 refine Qc 2 K M ?_;intro _ K;obtain⟨v10,st10,ev10,rfl,q10⟩:=NI M.fresh (hX.q M.qt);refine pg K rfl rfl (Qh rfl ev10) fun _ K=>?_;replace M:=M.quiet q10;refine Qc 3 K M ?_;exact⟨congrArg AV.bool (decide_eq_true Qe),M.qt⟩

theorem DS{st:St}(hf:Qj st){F:Fp}{dp:Nat}{a:Au}{ka kr:AV}{sp:Nat}{F1:Fp}{S:U6}{roots:List Nat}(hX:Hb st F dp a ka kr sp F1 S roots)(hs:s<a.n): ∃v st',Ev Tryz.prog Q0 26 [.ptr dp 0 0,iN s] st v st'∧v=.bool (a.ok s)∧Qt st st':=by
 have wf:=hX.wf;have hen:a.n=a.acc.length:=rfl;have hrl:=hX.len;have hsa:s<a.acc.length:=hs;refine JB Tryz.func26 Tryz.ntmps26 fun T K=>?_;have M:=Mem.start hf;refine Qc 3 K M ?_;intro _ K;refine oQ K M (uZ M.fresh (hX.q M.qt) hs) rfl rfl fun _ _ K M=>?_;refine Qc 4 K M ?_;intro _ K;refine pg K rfl rfl (Qd rfl (Qz (M.JE Q7 hX.row.Jb) (Qf Uj rfl))) fun _ K=>?_;refine Qc 1 K M ?_;intro _ K;obtain⟨y14,hi14⟩:=U1 a.acc s Qe;obtain⟨x14,m14,f14,q14,_,la14,lo14,lp14⟩:=(Jj.mem M hX.acc Q7).load (i:=s) (cs:=_) (Wh hi14);refine pg K rfl rfl (Qa (j:=s) J0 (congrArg some q14) rfl (by rw[JH];omega)) fun _ K=>pg K rfl rfl (Qd rfl (lo14 _ 0 _ J3 rfl)) fun _ K=>?_;refine Qc 2 K M ?_;exact⟨congrArg AV.bool (Au.Kh hi14).symm,M.qt⟩

theorem V5{st:St}(hf:Qj st){F:Fp}{dp:Nat}{a:Au}(hD:UT st F dp a)(hs:s<a.n): ∃v st',Ev Tryz.prog Q0 26 [.ptr dp 0 0,.int .i64 (s:Nat)] st v st'∧v=.bool (a.ok s)∧Qt st st':=by
 obtain⟨_,_,_,_,_,_,hX⟩:=hD.x;exact DS hf hX hs

theorem uY{st:St}(hf:Qj st){F:Fp}{dp:Nat}{a:Au}{ka kr:AV}{sp:Nat}{F1:Fp}{S:U6}{roots:List Nat}(hX:Hb st F dp a ka kr sp F1 S roots)(hs:s<a.n)(hr:roots[s]? =some r): ∃v st',Ev Tryz.prog Q0 83 [.ptr dp 0 0,iN s] st v st'∧v=iN r∧Qt st st':=by
 have wf:=hX.wf;have hen:a.n=a.acc.length:=rfl;have hrl:=hX.len;refine JB Tryz.func83 Tryz.ntmps83 fun T K=>?_;have M:=Mem.start hf;refine Qc 3 K M ?_;intro _ K;refine oQ K M (uZ M.fresh (hX.q M.qt) hs) rfl rfl fun _ _ K M=>?_;refine Qc 5 K M ?_;intro _ K;refine p1 K (Qd rfl (Qz (M.JE Q7 hX.row.Jb) (Qf Ja rfl))) fun _ K=>?_;refine Qc 1 K M ?_;intro _ K;obtain⟨y14,hi14⟩:=U1 roots s Qe;obtain⟨x14,m14,f14,q14,_,la14,lo14,lp14⟩:=(Jj.mem M hX.rt Q7).load (i:=s) (cs:=_) (EB hi14);refine p1 K (Qa (j:=s) Qv (congrArg some q14) rfl (by rw[Ql,List.length_map];omega)) fun _ K=>p1 K (Qd rfl (lo14 _ 0 _ Qr rfl)) fun _ K=>?_;refine Qc 1 K M ?_
 rw[hr]at hi14;injection hi14 with hi14;subst hi14
 exact⟨rfl,M.qt⟩

theorem y7{st:St}(hf:Qj st){F:Fp}{sp Tn:Nat}{S:U6}(hS:Zm st F sp Tn S)(h6:Tn≤6){i:Nat}(hi:i<S.length){c:Int}(hc:c<0∨((2^Tn:Nat):Int)≤c): ∃v st',Ev Tryz.prog Q0 74 [.ptr sp 0 0,iN i,iZ c] st v st'∧v=iZ (-1)∧Qt st st':=by
 have hp:=LK (show Tn≤62 by omega);refine JB Tryz.func74 Tryz.ntmps74 fun T K=>?_;have M:=Mem.start hf;refine Qc 3 K M ?_;intro _ K;refine oQ K M (IL M.fresh (hS.q M.qt) hi) rfl rfl fun _ _ K M=>?_;refine Qc 5 K M ?_;intro _ K;refine Un K (Qg rfl) rfl (fun _ e15 K=>?_) fun _ e15 K=>?_
 ·refine Qc 2 K M ?_;intro _ K;obtain⟨v18,st18,ev18,rfl,q18⟩:=VA M.fresh (hS.q M.qt);refine pg K rfl rfl (Qh rfl ev18) fun _ K=>?_;replace M:=M.quiet q18;refine pg K rfl rfl (Yq (n:=Tn) rfl rfl Qe) fun _ K=>?_;refine Qc 2 K M ?_;intro _ K;refine JN K rfl (fun h21=>?_) fun h21=>?_
  ·refine Qc 1 K M ?_;exact⟨rfl,M.qt⟩
  exfalso;omega
 refine Qc 8 K M ?_;exact⟨rfl,M.qt⟩

theorem xM{st:St}(hf:Qj st){F:Fp}{sp Tn:Nat}{S:U6}(hS:Zm st F sp Tn S)(h6:Tn≤6)(wf:Xb Tn S){i:Nat}(hi:i<S.length)(c:Int): ∃v st',Ev Tryz.prog Q0 74 [.ptr sp 0 0,.int .i64 (i:Nat),.int .i64 c] st v st'∧v=.int .i64 (if 0≤c∧c<2^Tn then Y2 S i c.toNat else-1)∧Qt st st':=by
 have hp:=AJ Tn
 by_cases h:0≤c∧c<2^Tn
 ·rw[if_pos h];obtain⟨k,rfl⟩: ∃k:Nat,c=((k:Nat):Int):=⟨c.toNat,by omega⟩;exact RQ hf hS h6 wf hi Qe
 ·rw[if_neg h];exact y7 hf hS h6 hi Qe

theorem uW{st:St}(hf:Qj st){F:Fp}{dp:Nat}{a:Au}{ka kr:AV}{sp:Nat}{F1:Fp}{S:U6}{roots:List Nat}(hX:Hb st F dp a ka kr sp F1 S roots)(hs:s<a.n)(c:Int): ∃v st',Ev Tryz.prog Q0 57 [.ptr dp 0 0,iN s,iZ c] st v st'∧v=iZ (if 0≤c∧c<2^a.tr then((a.go s c.toNat:Nat):Int)else-1)∧Qt st st':=by
 have wf:=hX.wf;have hen:a.n=a.acc.length:=rfl;have hrl:=hX.len;obtain⟨r,hr⟩:=U1 roots s Qe;obtain⟨hr1,hr2⟩:=hX.rts _ _ hr;refine JB Tryz.func57 Tryz.ntmps57 fun T K=>?_;have M:=Mem.start hf;refine Qc 2 K M ?_;intro _ K;refine oQ K M (GD M.fresh (hX.q M.qt)) rfl rfl fun _ _ K M=>?_;refine Qc 2 K M ?_;intro _ K;refine oQ K M (uY M.fresh (hX.q M.qt) hs hr) rfl rfl fun _ _ K M=>?_;refine Qc 1 K M ?_;intro _ K;refine oQ K M (xM M.fresh (hX.q M.qt).i wf.tr hX.wfS hr1 c) rfl rfl fun _ _ K M=>?_;refine Qc 1 K M ?_;refine⟨congrArg (AV.int .i64) ?_,M.qt⟩;have hp:=AJ a.tr
 by_cases h:0≤c∧c<2^a.tr
 ·rw[if_pos h,if_pos h,ah wf hs Qe hr2]
 ·rw[if_neg h,if_neg h]

theorem xF{st:St}(hf:Qj st){F:Fp}{dp:Nat}{a:Au}{ka kr:AV}{sp:Nat}{F1:Fp}{S:U6}{roots:List Nat}(hX:Hb st F dp a ka kr sp F1 S roots){kw:AV}(hw:Jj st.h.get [] 1 (zC w) kw): ∃v st',Ev Tryz.prog Q0 31 [.ptr dp 0 0,kw] st v st'∧v=vJ a (X7 a 0 w)∧Qt st st':=by
 have wf:=hX.wf;have hen:a.n=a.acc.length:=rfl;have hrl:=hX.len
 have hbnw:(w.length:Int)≤9223372036854775807:=by have:=hw.Ey;rw[Ql]at this;exact this
 have hps:=wf.pos;have hp:=AJ a.tr;refine JB Tryz.func31 Tryz.ntmps31 fun T K=>?_;have M:=Mem.start hf;refine Qc 3 K M ?_;intro _ K;refine p1 K (Yc JX rfl rfl) fun _ K=>?_;refine Qc 2 K M ?_;intro _ K;refine p1 K (QA Jh rfl rfl (hw.len.trans (congrArg some (Ql _)))) fun _ K=>?_;refine Qc 1 K M ?_;intro _ K;refine Jd (fun mm1 T st9=> ∃(i s:Nat),mm1=w.length-i∧QX [(0,.ptr dp 0 0),(4,iN s),(10,kw),(11,iZ (w.length:Nat)),(12,iN i)] T∧Mem st.h.get st.n [] st9 []∧i≤w.length∧s<a.n∧X7 a 0 w=X7 a s (w.drop i)) (fun mm1 T st9 hI=>?_) _ _ _ ⟨0,0,rfl,(K.sub rfl),M.less (.refl _),(Nat.zero_le _),hps,rfl⟩;obtain⟨i,s,rfl,K,M,hi,hs,hx⟩:=hI;refine Qc 1 K M ?_;intro _ K;refine JN K rfl (fun h13=>?_) fun h13=>?_
 ·refine Qc 0 K M ?_;intro _ K;obtain⟨y14,hi14⟩:=U1 w i Qe;obtain⟨x14,m14,f14,q14,_,la14,lo14,lp14⟩:=(Jj.mem M hw Q7).load (i:=i) (cs:=_) (Jo hi14);refine p1 K (Qa (j:=i) Qv (congrArg some q14) rfl (by rw[Ql];omega)) fun _ K=>p1 K (Qd rfl (lo14 _ 0 _ Qr rfl)) fun _ K=>?_;refine Qc 4 K M ?_;intro _ K;refine oQ K M (uW M.fresh (hX.q M.qt) hs y14) rfl rfl fun _ _ K M=>?_;refine Qc 1 K M ?_;intro _ K;have hst:0≤y14∧y14<2^a.tr∨ ¬(0≤y14∧y14<2^a.tr):=Classical.em _;refine Qc 2 K M ?_;intro _ K;refine JN K rfl (fun h21=>?_) fun h21=>?_
  ·refine Qc 2 K M ?_;refine⟨?_,M.qt⟩
   have hy: ¬(0≤y14∧y14<2^a.tr):=fun h=>by rw[if_pos h]at h21;omega
   rw[hx,Ge hi14,if_neg hy];rfl
  refine Qc 2 K M ?_;intro _ K
  have hy:0≤y14∧y14<2^a.tr:=Classical.byContradiction fun h=>by rw[if_neg h]at h21;omega
  rw[if_pos hy]at K;exact⟨_,Qe,i+1,a.go s y14.toNat,rfl,(K.sub rfl),M.less (.refl _),Qe,(wf.UN hs (show y14.toNat<2^a.tr by omega)),(by rw[hx,Ge hi14,if_pos hy])⟩
 refine QU ?_;show W _ _ _ _ _ _ _;refine QC ?_;have hsa:s<a.acc.length:=hs;refine QF (l:=[(0,0),(1,0),(2,0),(3,0),(4,0),(5,0),(6,0),(7,0),(8,0),(9,0)]) (by kernel_rfl) ?_;refine Jn 4 K M ?_;intro _ K;refine q1 rfl K (Qd rfl (Qz (M.JE Q7 hX.row.Jb) (Qf Uj rfl))) fun _ K=>q1 rfl K (Qg rfl) fun _ K=>?_;obtain⟨y29,hi29⟩:=U1 a.acc s Qe;obtain⟨x29,m29,f29,q29,_,la29,lo29,lp29⟩:=(Jj.mem M hX.acc Q7).load (i:=s) (cs:=_) (Wh hi29);refine q1 rfl K (Qa (j:=s) J0 (congrArg some q29) rfl (by rw[JH];omega)) fun _ K=>q1 rfl K (Qd rfl (lo29 _ 0 _ J3 rfl)) fun _ K=>?_;refine Jn 2 K M ?_;intro _ K;refine QI ?_;show W _ _ _ _ _ _ _;refine Qc 0 K M ?_;refine⟨?_,M.qt⟩;rw[hx,List.drop_eq_nil_of_le Qe,X7];show _=AV.tup [iN s,.bool (a.ok s)];rw[Au.Kh hi29]

theorem uX{st:St}(hf:Qj st){F:Fp}{dp:Nat}{a:Au}(hD:UT st F dp a){kw:AV}(hw:Jj st.h.get [] 1 (zC w) kw): ∃v st',Ev Tryz.prog Q0 31 [.ptr dp 0 0,kw] st v st'∧v=vJ a (X7 a 0 w)∧Qt st st':=by
 obtain⟨_,_,_,_,_,_,hX⟩:=hD.x;exact xF hf hX hw
end Go.Proofs.YtiknomepbklibaaGreatDoor
end
section
namespace Go.Proofs.YtiknomepbklibaaGreatDoor
open Go Go.RowKit
variable {F:Fp} {a:Au}

def A6(st st':St)(a:Au)(v:AV):Prop:= ∃(ka kn:AV) (vs:List AV) (A:QT) (F:Fp),v=.agg [.int .i64 (a.tr:Nat),ka,kn]∧Acc 0 1 A ka (bC a.acc)∧Xo st'.h.get F kn vs a.nx∧ZK st st' F∧(A.map Prod.fst).Nodup∧ ∀c m l,(c,m,l)∈A→Q4 st'.h.get c m l∧st.n≤c∧ ¬F c
theorem Qk.Kj{st0 st st':St}{X0:Fp}{M:QT}{Os:List Ob}(B:Qk st0 X0 st M Os)(q:Qt st st'){v:AV}(h:A6 st st' a v): ∃ka kn vs A F,v=.agg [.int .i64 (a.tr:Nat),ka,kn]∧Acc 0 1 A ka (bC a.acc)∧Qk st0 X0 st' (M++(A++[])) (BM F kn vs a.nx::Os):=by
 obtain⟨ka,kn,vs,A,F,h1,h2,h3,h4,h5,h6⟩:=h;have B1:=B.new (o:=BM F kn vs a.nx) q h3 h4;have hlt: ∀c m l,(c,m,l)∈A→c<st'.n:=fun c m l hm=>(h6 c m l hm).1.lt q.fresh;refine⟨ka,kn,vs,A,F,h1,h2,B1.fresh,B1.le,fun c m l hm=>?_,?_,fun c m l hm=>?_,B1.obj,B1.hi,B1.dj,fun o ho c m l hm hc=>?_,B1.J5⟩
 ·rw[List.append_nil]at hm;rcases List.mem_append.1 hm with hm|hm
  ·exact B1.row c m l hm
  ·exact(h6 c m l hm).1
 ·rw[List.append_nil,List.map_append];refine List.nodup_append.2 ⟨B.nodup,h5,fun x hx y hy e=>?_⟩;subst e;obtain⟨⟨c,m,l⟩,k1,rfl⟩:=List.mem_map.1 hx;obtain⟨⟨c',m',l'⟩,k2,k3⟩:=List.mem_map.1 hy;simp only at k3;subst k3;have:=(B.row _ m l k1).lt B.fresh;have:=(h6 _ m' l' k2).2.1;omega
 ·rw[List.append_nil]at hm;rcases List.mem_append.1 hm with hm|hm
  ·exact B1.lo c m l hm
  ·exact .inl (Nat.le_trans B.le (h6 c m l hm).2.1)
 ·rw[List.append_nil]at hm;rcases List.mem_append.1 hm with hm|hm
  ·exact B1.djM o ho c m l hm hc
  ·rcases List.mem_cons.1 ho with rfl|ho
   ·exact(h6 c m l hm).2.2 hc
   ·have:=(B.hi o ho c hc).1;have:=(h6 c m l hm).2.1;omega
theorem Qk.Bc{st0 st:St}{M A:QT}{Os:List Ob}{ka kn:AV}{vs:List AV}(B:Qk st0 Xv st (M++(A++[])) (BM F kn vs a.nx::Os))(hA:Acc 0 1 A ka (bC a.acc)):A6 st0 st a (.agg [.int .i64 (a.tr:Nat),ka,kn]):=by
 have hn:=B.nodup;rw[List.append_nil,List.map_append]at hn;refine⟨ka,kn,vs,A,F,rfl,hA,B.at_ (k:=0) rfl,B.jS (k:=0) rfl,(List.nodup_append.1 hn).2.1,fun c m l hm=>⟨B.row c m l (by simp[hm]),(B.lo c m l (by simp[hm])).resolve_right id,B.djM _ (List.mem_cons_self ..) c m l (by simp[hm])⟩⟩
section
variable {P:Program} {G:Env} {N:Nat} {h0:Hp} {n0:Nat} {X:List Nat} {st:St} {L A B:U7} {T:Tr AV} {ops:List Oper} {K:List (Nat×AV)} {R:Tr AV→St→Prop} {d:Nat} {ty:TypeId} {pos:String} {af:Array Edge}
theorem zb{sn:List St}{i:Nat}{rr:List (Nat×Nat)}{x y:Operand}{t e:TypeId}{c2 m2 k2:Nat}{ks v:AV}{vs:List AV}(ho:ops[i]? =some ⟨some d,.call {callee:=.builtin .append,args:= #[x,y],argTypes:= #[t,t]},ty,pos,af,none⟩)(hK:QX K T)(hM:Mem h0 n0 X st (L++(A++B)))(hA:YP A ks vs)(S:FX P t e 1)(hx:QW G K x=some ks)(hy:QW G K y=some (.sl c2 m2 0 1 1))(hk:(L++(A++B))[k2]? =some (c2,m2,[v]))(hb:vs.length+1≤1000000000)(hN:Nat.ble (d+1) N=true)
  (hn: ∀(ks':AV) A' T' st',QX ((d,ks')::K) T'→YP A' ks' (vs++[v])→(∀c m l,(c,m,l)∈A'→(∃m l,(c,m,l)∈A)∨st.n≤c)→Mem h0 n0 X st' (L++(A'++B))→WD P G N ops (rr.map (Yz ops)) R T' st' (st'::sn)):WD P G N ops (((i,0)::rr).map (Yz ops)) R T st sn:=by
 obtain⟨ks',A',st1,h1,h2,h3,h4⟩:=hM.vr hA S hk hb;exact Lv ho hK (ZF rfl hx hy h1) rfl (Nat.le_of_ble_eq_true hN) fun T' hT'=>hn ks' A' T' st1 hT' h2 h4 h3
end

theorem wO{st:St}(hf:Qj st){dp:Nat}{ka kr:AV}{sp:Nat}{F1:Fp}{S:U6}{roots:List Nat}(hX:Hb st F dp a ka kr sp F1 S roots): ∃v st',Ev Tryz.prog Q0 17 [.ptr dp 0 0] st v st'∧A6 st st' a v∧Qt st st':=by
 have wf:=hX.wf;have hen:a.n=a.acc.length:=rfl;have hrl:=hX.len;have hmo:=wf.most;have hln:=wf.len;have htr:=wf.tr;have hp64:=JF wf.tr;have B:=Qk.start hf;refine JB Tryz.func17 Tryz.ntmps17 fun T K=>?_;have M:=B.mem;refine au 2 K M ?_;intro c2 _ _ K _ M;refine p1 K (Yc JX rfl rfl) fun _ K=>?_;refine Qc 1 K M ?_;intro _ K;refine QF (l:=[(0,0),(1,0),(2,0),(3,0),(4,0),(5,1),(6,0),(7,0),(8,0),(9,0)]) (by kernel_rfl) ?_;have Mq:=M;refine q1 rfl K (Qg rfl) fun _ K=>?_;obtain⟨v10,st10,ev10,rfl,q10⟩:=NG M.fresh (hX.q (B.step M).qt);refine qA rfl K (Qh rfl ev10) fun _ K=>?_;replace M:=M.quiet q10;have Mp:=Mq;have Mq:=M;refine Jn 3 K M ?_;intro _ K;refine Js rfl K rfl (Qz ((B.step M).YA hf hX.row.Jb id) (Qf Uj rfl)) (Qz ((B.step Mp).YA hf hX.row.Jb id) (Qf Uj rfl)) (JQ (Ul (hX.acc.len.trans (congrArg some (JH _))))) rfl QD fun _ K=>?_;obtain⟨v15,st15,ev15,ks15,rfl,nr15,q15⟩:=GL M.fresh ((B.step M).Ov hf hX.acc) Qe;refine qA rfl K (Qh rfl ev15) fun _ K=>?_;obtain⟨A15,hA15,M⟩:=M.Yt q15 nr15;replace hA15:=hA15.z0;simp only[List.append_assoc,List.cons_append,List.nil_append,List.set_cons_zero,List.set_cons_succ]at M;have Mp:=Mq;have Mq:=M;refine q1 rfl K (W2 VG rfl ((AO rfl rfl rfl).trans ((J8 rfl hA15.cell rfl).trans rfl))) fun _ K=>?_;refine Wr rfl K M Y3 QD fun c3 _ _ K M=>?_;refine Vq (k:=0) rfl K M rfl rfl rfl QE rfl (Qb rfl (Qb hA15.cell (Qb rfl Q6))) rfl fun _ M=>?_;have Mp:=Mq;have Mq:=M;refine QI ?_;show W _ _ _ _ _ _ _;refine QC<|QC ?_;replace B:=(B.step M).Vx;have M:=B.mem;refine Qc 3 K M ?_;intro _ K;refine p1 K (Qd rfl (Qz ((B.step M).YA hf hX.row.Jb id) (Qf Ja rfl))) fun _ K=>p1 K (QA Jh rfl rfl (hX.rt.len.trans (congrArg some (by rw[Ql,List.length_map])))) fun _ K=>?_;refine Qc 1 K M ?_;intro _ K;refine Jd (fun mm1 T st9=> ∃(i:Nat) (vs:List AV) (kn:AV) (A:QT) (F:Fp),mm1=roots.length-i∧QX [(0,.ptr dp 0 0),(2,.ptr c2 0 0),(3,.ptr c3 0 0),(20,kr),(21,iZ (roots.length:Nat)),(22,iN i)] T∧Qk st Xv st9 ((c3,0,[iZ (a.tr:Nat),v15,kn])::(c2,0,[iZ 0,.nils,.nils])::(A15++(A++[]))) [ED F vs (a.nx.take i)]∧YP A kn vs∧i≤roots.length) (fun mm1 T st9 hI=>?_) _ _ _ ⟨0,[],.nils,[],_,rfl,(K.sub rfl),(B.step M).less (.refl _),.none,(Nat.zero_le _)⟩;obtain⟨i,vs,kn,A,F,rfl,K,B,hA4,hi⟩:=hI;have M:=B.mem;refine Qc 1 K M ?_;intro _ K;refine JN K rfl (fun h23=>?_) fun h23=>?_
 ·refine Qc 0 K M ?_;intro _ K;obtain⟨y24,hi24⟩:=U1 roots i Qe;obtain⟨x24,m24,f24,q24,_,la24,lo24,lp24⟩:=((B.step M).Ov hf hX.rt).load (i:=i) (cs:=_) (EB hi24);refine p1 K (Qa (j:=i) Qv (congrArg some q24) rfl (by rw[Ql,List.length_map];omega)) fun _ K=>p1 K (Qd rfl (lo24 _ 0 _ Qr rfl)) fun _ K=>?_;refine Qc 1 K M ?_;intro _ K;refine QF (l:=[(2,0),(3,0),(4,0),(5,0),(6,0),(7,0),(0,0),(1,1),(8,0),(9,0),(10,0),(11,0)]) (by kernel_rfl) ?_;have Mq:=M;refine Jn 3 K M ?_;intro _ K;refine q1 rfl K (Qd rfl (Qz ((B.step M).YA hf hX.row.Jb id) (Qf JJ rfl))) fun _ K=>q1 rfl K (Qg rfl) fun _ K=>?_;obtain⟨hr1,hr2⟩:=hX.rts _ _ hi24;have hXi:=(hX.q (B.step M).qt).i;obtain⟨v33,st33,ev33,ks33,rfl,nr33,q33⟩:=xL M.fresh hXi wf.tr hX.wfS hr1;refine qA rfl K (Qh rfl ev33) fun _ K=>?_;obtain⟨A33,hA33,M⟩:=M.Yt q33 nr33;replace hA33:=hA33.z0;simp only[List.append_assoc,List.cons_append,List.nil_append,List.set_cons_zero,List.set_cons_succ]at M;have Mp:=Mq;have Mq:=M;refine Jn 1 K M ?_;intro _ K;refine Js rfl K rfl (M.load (k:=0) rfl (Qf Q9 rfl)) (Mp.load (k:=0) rfl (Qf Q9 rfl)) (JQ (Ul hA4.len)) rfl QD fun _ K=>?_;refine XR rfl K M QS Ut rfl ((J8 rfl hA33.cell rfl).trans rfl) (Qb hA33.cell Q6) rfl rfl fun c34 _ _ K M=>?_;refine zb (k2:=0) (L:=((c34,0,[v33])::(c3,0,[iZ (a.tr:Nat),v15,kn])::(c2,0,[iZ 0,.nils,.nils])::(A15++[]))) (A:=A) (B:=(A33++[])) rfl K (Mem.cast (M:=((c34,0,[v33])::(c3,0,[iZ (a.tr:Nat),v15,kn])::(c2,0,[iZ 0,.nils,.nils])::(A15++(A++(A33++[]))))) (M':=((c34,0,[v33])::(c3,0,[iZ (a.tr:Nat),v15,kn])::(c2,0,[iZ 0,.nils,.nils])::(A15++[]))++(A++(A33++[]))) M Ux) hA4 QS rfl rfl rfl (by have:=((B.step M).at_ (k:=0) rfl).ln;rw[List.length_take]at this;omega) rfl fun ks35 A35 _ _ K hA35 _ M=>?_;simp only[List.append_assoc,List.cons_append,List.nil_append,List.set_cons_zero,List.set_cons_succ]at M;refine Jn 1 K M ?_;intro _ K;refine Zd (k:=1) rfl K M rfl rfl rfl Uv (hA35.cell) rfl fun _ M=>?_;have Mp:=Mq;have Mq:=M;refine QI ?_;show W _ _ _ _ _ _ _;refine Qc 2 K M ?_;intro _ K;replace B:=B.step M;obtain⟨Fr,B⟩:=Qk.Z7 (L:=((c34,0,[v33])::(c3,0,[iZ (a.tr:Nat),v15,ks35])::(c2,0,[iZ 0,.nils,.nils])::(A15++(A35++[])))) (A:=A33) (B:=[]) (B.cast Ux) hA33 (wf.AZ _ (List.mem_of_getElem? hr2));replace B:=B.cast (M':=((c34,0,[v33])::(c3,0,[iZ (a.tr:Nat),v15,ks35])::(c2,0,[iZ 0,.nils,.nils])::(A15++(A35++[])))) Ux
  have htk:a.nx.take i++[Wx a.tr S y24]=a.nx.take (i+1):=by rw[List.take_add_one,hr2];rfl
  rw[htk]at B;have M:=B.mem;exact⟨_,Qe,i+1,_,ks35,A35,_,rfl,(K.sub rfl),(B.step M).less (.cons _ (.refl _)),hA35,Qe⟩
 refine QU ?_;show W _ _ _ _ _ _ _;refine Qc 1 K M ?_;intro _ K;refine QV (k:=1) K M rfl rfl rfl QE rfl (Qb rfl (Qb hA15.cell (Qb hA4.cell Q6))) rfl fun _ M=>?_;refine Qc 0 K M ?_;refine⟨?_,(B.step M).qt⟩;replace B:=B.step M;have hti:a.nx.take i=a.nx:=List.take_of_length_le Qe;rw[hti]at B;obtain⟨F',B'⟩:=Qk.Bd (L:=((c3,0,[iZ (a.tr:Nat),v15,kn])::(c2,0,[iZ (a.tr:Nat),v15,kn])::A15)) (A:=A) (B:=[]) (B.cast Ux) hA4;exact Qk.Bc (M:=[(c3,0,[iZ (a.tr:Nat),v15,kn]),(c2,0,[iZ (a.tr:Nat),v15,kn])]) (A:=A15) (B'.cast Q7) hA15

theorem NH{st:St}(hf:Qj st){dp:Nat}(hD:UT st F dp a): ∃v st',Ev Tryz.prog Q0 17 [.ptr dp 0 0] st v st'∧A6 st st' a v∧Qt st st':=by
 obtain⟨_,_,_,_,_,_,hX⟩:=hD.x;exact wO hf hX
end Go.Proofs.YtiknomepbklibaaGreatDoor
end
section
namespace Go.Proofs.YtiknomepbklibaaGreatDoor
open Go Go.RowKit

theorem VX{α:Type}(f:α→AV){L:List α}{j:Nat}{x:α}(h:L[j]? =some x):nth (L.map f) (0+j *1)=some (f x):=by
 rw[U5,Nat.zero_add,Nat.mul_one,List.getElem?_map,h];rfl
theorem WX{α:Type}(f:α→AV)(w:α): ∀{L:List α} {j:Nat},j<L.length→Zn [f w] (0+j *1) (L.map f)=some ((L.set j w).map f):=by
 intro L j h;rw[Nat.zero_add,Nat.mul_one]
 induction L generalizing j with
 |nil=>simp at h
 |cons a L ih=>
  cases j with
  |zero=>rfl
  |succ j=>
   rw[List.map_cons,LR,ih (by simpa using h)];rfl
theorem IC{α:Type}(f:α→AV)(L:List α):(L.map fun x=>[f x]).flatten=L.map f:=by
 induction L with
 |nil=>rfl
 |cons a L ih=>rw[List.map_cons,List.flatten_cons,ih];rfl
theorem Acc.jw{α:Type}{f:α→AV}{n0:Nat}{A:QT}{ks:AV}{L:List α}(hA:Acc n0 1 A ks (L.map fun x=>[f x]))(hL:0<L.length): ∃c m,ks=.sl c m 0 L.length 1∧A=[(c,m,L.map f)]:=by
 generalize hg:(L.map fun x=>[f x])=ls at hA
 cases hA with
 |none=>have h0:=congrArg List.length hg;rw[List.length_map,List.length_nil]at h0;omega
 |own h1 h2 h3=>
  rename_i c m;subst hg;exact⟨c,m,by rw[List.length_map],by rw[IC]⟩
theorem Acc.ofM{α:Type}(f:α→AV){c m:Nat}{L:List α}(hb:L.length≤1000000000):Acc 0 1 [(c,m,L.map f)] (.sl c m 0 L.length 1) (L.map fun x=>[f x]):=by
 have:=Acc.own (n0:=0) (z:=1) (c:=c) (m:=m) (ls:=L.map fun x=>[f x]) (Nat.zero_le _) (fun cs hc=>by obtain⟨x,_,rfl⟩:=List.mem_map.1 hc;rfl) (by rw[List.length_map];exact hb);rw[IC,List.length_map]at this;exact this
theorem Q4.fg{α:Type}{f:α→AV}{h:Hp}{c m n:Nat}{L:List α}(r:Q4 h c m (L.map f))(hn:L.length=n)(hb:L.length≤1000000000):Jj h [] 1 (L.map fun x=>[f x]) (.sl c m 0 n 1):=by
 subst hn;have:=Jj.own (X:=[]) (z:=1) (ls:=L.map fun x=>[f x]) (c:=c) (m:=m) (by rw[IC];exact r) (fun cs hc=>by obtain⟨x,_,rfl⟩:=List.mem_map.1 hc;rfl) Q7 (by rw[List.length_map];omega);rw[List.length_map]at this;exact this
section
variable {P:Program} {G:Env} {N:Nat} {h0:Hp} {n0:Nat} {X:List Nat} {st:St} {M:QT} {T:Tr AV} {ops rest:List Oper} {K:List (Nat×AV)} {R:Tr AV→St→Prop} {d:Nat} {t ty:TypeId} {pos:String} {af:Array Edge}
theorem CY{α:Type}(z:α): ∀n,Vb n [z]=List.replicate n z
 |0=>rfl
 |n+1=>by rw[List.replicate_succ,←CY z n];show Z5 [z] (Vb n [z])=_;rw[U4];rfl
theorem Cy{α:Type}(f:α→AV)(z:α){x:Operand}{n:Nat}{e:TypeId}(hK:QX K T)(hM:Mem h0 n0 X st M)(S:FX P t e 1)(hz:zeroOf P e=some [f z])(hx:QW G K x=some (.int .i64 (n:Nat)))(hb:n≤1000000000)(hN:Nat.ble (d+1) N=true)
  (hn: ∀(c:Nat) T' st',QX ((d,.sl c 0 0 n 1)::K) T'→Mem h0 n0 X st' ((c,0,(List.replicate n z).map f)::M)→WR P G N ops rest R T' st'):WR P G N ops (⟨some d,.makeSlice t x x,ty,pos,af,none⟩::rest) R T st:=by
 refine Ep (v:=.sl st.n 0 0 n 1) (st1:=⟨st.n+1,st.h.set st.n (.row false [(((List.replicate n z).map f).length,0,some ((List.replicate n z).map f))])⟩) hK (.of fun T hT c d ty pos af g=>?_) (Nat.le_of_ble_eq_true hN) fun T' hT'=>hn st.n T' _ hT' (hM.alloc _);show(ob (QH G T x) fun a=>ob (QH G T x) fun b=>Vz P t a b st)=_;rw[hT.QH hx,Qm,Qm];unfold Vz;have h1:Ol ((n:Nat):Int)=some n:=rfl;simp only[S.u,h1,Qm,S.s,QP,hz,S.c];rw[show Nat.beq (Zh [f z]) 1=true from rfl,show Nat.ble 1 (Zh [f z])=true from rfl,Nat.ble_eq_true_of_le (Nat.le_refl n),Nat.ble_eq_true_of_le hb,Nat.ble_eq_true_of_le S.b];simp only[QP,UZ,Jf,CY,List.map_replicate]
end
end Go.Proofs.YtiknomepbklibaaGreatDoor
end
