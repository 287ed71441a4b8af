/-
  Automata: looked at.
-/
import Derived.Test.YtiknomepbklibaaGreatDoorQhAuB
set_option maxHeartbeats 8000000
set_option maxRecDepth 100000
set_option linter.unnecessarySimpa false
set_option linter.unusedSimpArgs false
set_option linter.unusedVariables false
namespace Go.Proofs.YtiknomepbklibaaGreatDoor
section
open Go Go.RowKit
variable {r s:Nat} {w:List Int}

theorem Xq{l:List Nat}{i:Nat}(h:l[i]? =some r):(zC (zN l))[i]? =some [.int .i64 (r:Nat)]:=Jm (by rw[List.getElem?_map,h];rfl)
theorem Au.Kv{a:Au}{b:Bool}(h:a.acc[s]? =some b):a.ok s=b:=by unfold Au.ok;rw[h];rfl
theorem fj{a:Au}(wf:Zs a){c:Nat}{S:U8}(hs:s<a.n)(hc:c<2^a.tr)(h:a.nx[s]? =some (WE a.tr S r)):((a.go s c:Nat):Int)=Y5 S r c:=by
 obtain⟨q,z,h1,h2,h3,_⟩:=wf.at_ hs hc;rw[h]at h1
 injection h1 with h1
 rw[←h1,Nf S r hc]at h2
 injection h2 with h2
 rw[h2,←h3]
structure Ht(st:St)(F:Fp)(dp:Nat)(a:Au)(ka kr:AV)(sp:Nat)(F1:Fp)(S:U8)(roots:List Nat):Prop where
 row:Qy st.h.get dp 0 [ka,kr,.ptr sp 0 0]
 dpF:F dp
 acc:Jj st.h.get [] 1 (bC a.acc) ka
 accF:zF F ka
 rt:Jj st.h.get [] 1 (zC (zN roots)) kr
 rtF:zF F kr
 Kq:AJ st.h.get F1 sp a.tr S
 sub: ∀c,F1 c→F c
 wfS:Xk a.tr S
 wf:Zs a
 len:roots.length=a.n
 rts: ∀(s r:Nat),roots[s]? =some r→r<S.length∧a.nx[s]? =some (WE a.tr S r)
 hi: ∀c,F c→c<st.n
theorem UZ.x{st:St}{F:Fp}{dp:Nat}{a:Au}(hD:UZ st F dp a): ∃ka kr sp F1 S roots,Ht st F dp a ka kr sp F1 S roots:=by
 obtain⟨ka,kr,sp,F1,S,roots,h1,h2,h3,h4,h5,h6,h7,h8,h9,h10,h11,h12⟩:=hD.at_;exact⟨ka,kr,sp,F1,S,roots,h1,h2,h3,h4,h5,h6,h7,h8,h9,h10,h11,h12,hD.hi⟩
section
variable {st st':St} {F:Fp} {dp:Nat} {a:Au} {ka kr:AV} {sp:Nat} {F1:Fp} {S:U8} {roots:List Nat}
theorem Ht.q(hX:Ht st F dp a ka kr sp F1 S roots)(q:Qt st st'):Ht st' F dp a ka kr sp F1 S roots:=by
 have e: ∀c,F c→st'.h.get c=st.h.get c:=fun c hc=>q.JB c (hX.hi c hc);exact⟨hX.row.frame (e dp hX.dpF),hX.dpF,hX.acc.frame fun c m o n y e'=>e c (hX.accF c m o n y e'),hX.accF,hX.rt.frame fun c m o n y e'=>e c (hX.rtF c m o n y e'),hX.rtF,hX.Kq.frame fun c hc=>e c (hX.sub c hc),hX.sub,hX.wfS,hX.wf,hX.len,hX.rts,fun c hc=>Nat.lt_of_lt_of_le (hX.hi c hc) q.le⟩
theorem Ht.i(hX:Ht st F dp a ka kr sp F1 S roots):Zm st F1 sp a.tr S:=⟨hX.Kq,fun c hc=>hX.hi c (hX.sub c hc)⟩
end
def Nc(a:Au):Nat→List Int→Option Nat
 |s,[]=>some s
 |s,c::w=>if 0≤c∧c<2^a.tr then Nc a (a.go s c.toNat) w else none
def aS(a:Au):Option Nat→AV
 |some s=>.tup [.int .i64 (s:Nat),.bool (a.ok s)]
 |none=>.tup [.int .i64 (-1),.bool false]
theorem Gv{a:Au}{i:Nat}{c:Int}(h:w[i]? =some c):Nc a s (w.drop i)=if 0≤c∧c<2^a.tr then Nc a (a.go s c.toNat) (w.drop (i+1))else none:=by
 obtain⟨h1,h2⟩:=List.getElem?_eq_some_iff.1 h;rw[List.drop_eq_getElem_cons h1,Nc,h2]
theorem Dl(a:Au): ∀(w:List Nat) (s:Nat),VO a.K w→Nc a s (zN w)=some (a.run s w)
 |[],s,_=>rfl
 |c::w,s,h=>by
  have hc:=h c Q7
  have hc':(c:Int)<2^a.tr:=by
   have h0:c<2^a.tr:=hc;have:=Em a.tr;omega
  show(if 0≤((c:Nat):Int)∧((c:Nat):Int)<2^a.tr then Nc a (a.go s ((c:Nat):Int).toNat) (zN w)else none)=_;rw[if_pos ⟨by omega,hc'⟩,Int.toNat_natCast,Dl a w _ fun x hx=>h x (by simp[hx])];rfl

theorem GS{st:St}(hf:Qi st){F:Fp}{dp:Nat}{a:Au}{ka kr:AV}{sp:Nat}{F1:Fp}{S:U8}{roots:List Nat}(hX:Ht st F dp a ka kr sp F1 S roots): ∃v st',Jh 63 [.ptr dp 0 0] st v st'∧v=.ptr sp 0 0∧Qt st st':=by
 have wf:=hX.wf;have hen:a.n=a.acc.length:=rfl;have hrl:=hX.len;refine JA Tryz.func63 Tryz.ntmps63 fun T K=>?_;have M:=Mem.start hf;refine Qb 2 K M fun _ K=>?_;refine p1 K (Yh JZ rfl rfl) fun _ K=>?_;refine Qb 4 K M fun _ K=>?_;refine p1 K (Qf rfl (Qx (M.JH Q7 hX.row.Jd) (Qd JK rfl))) fun _ K=>?_;refine Qb 1 K M ?_;exact⟨rfl,M.qt⟩

theorem Oa{st:St}(hf:Qi st){F:Fp}{dp:Nat}{a:Au}{ka kr:AV}{sp:Nat}{F1:Fp}{S:U8}{roots:List Nat}(hX:Ht st F dp a ka kr sp F1 S roots): ∃v st',Jh 38 [.ptr dp 0 0] st v st'∧v=iZ (a.tr:Nat)∧Qt st st':=by
 have wf:=hX.wf;have hen:a.n=a.acc.length:=rfl;have hrl:=hX.len;refine JA Tryz.func38 Tryz.ntmps38 fun T K=>?_;have M:=Mem.start hf;refine Qb 2 K M fun _ K=>?_;refine oQ K M (GS M.fresh (hX.q M.qt)) rfl rfl fun _ _ K M=>?_;refine oQ K M (VK M.fresh (hX.q M.qt).i) rfl rfl fun _ _ K M=>?_;refine Qb 1 K M ?_;exact⟨rfl,M.qt⟩

theorem Xu{st:St}(hf:Qi st){F:Fp}{dp:Nat}{a:Au}(hD:UZ st F dp a): ∃v st',Jh 38 [.ptr dp 0 0] st v st'∧v=.int .i64 (a.tr:Nat)∧Qt st st':=by
 obtain⟨_,_,_,_,_,_,hX⟩:=hD.x;exact Oa hf hX

theorem Od{st:St}(hf:Qi st){F:Fp}{dp:Nat}{a:Au}{ka kr:AV}{sp:Nat}{F1:Fp}{S:U8}{roots:List Nat}(hX:Ht st F dp a ka kr sp F1 S roots): ∃v st',Jh 25 [.ptr dp 0 0] st v st'∧v=iZ (a.n:Nat)∧Qt st st':=by
 have wf:=hX.wf;have hen:a.n=a.acc.length:=rfl;have hrl:=hX.len;refine JA Tryz.func25 Tryz.ntmps25 fun T K=>?_;have M:=Mem.start hf;refine Qb 2 K M fun _ K=>?_;refine p1 K (Yh JZ rfl rfl) fun _ K=>?_;refine Qb 4 K M fun _ K=>?_;refine p1 K (Qf rfl (Qx (M.JH Q7 hX.row.Jd) (Qd Um rfl))) fun _ K=>p1 K (Q5 Yc rfl rfl (hX.acc.len.trans (congrArg some (Uq _)))) fun _ K=>?_;refine Qb 1 K M ?_;exact⟨rfl,M.qt⟩

theorem GU{st:St}(hf:Qi st){F:Fp}{dp:Nat}{a:Au}(hD:UZ st F dp a): ∃v st',Jh 25 [.ptr dp 0 0] st v st'∧v=.int .i64 (a.n:Nat)∧Qt st st':=by
 obtain⟨_,_,_,_,_,_,hX⟩:=hD.x;exact Od hf hX

theorem yK{st:St}(hf:Qi st){F:Fp}{dp:Nat}{a:Au}{ka kr:AV}{sp:Nat}{F1:Fp}{S:U8}{roots:List Nat}(hX:Ht st F dp a ka kr sp F1 S roots)(hs:s<a.n): ∃v st',Jh 55 [.ptr dp 0 0,iN s] st v st'∧v=.bool true∧Qt st st':=by
 have wf:=hX.wf;have hen:a.n=a.acc.length:=rfl;have hrl:=hX.len;refine JA Tryz.func55 Tryz.ntmps55 fun T K=>?_;have M:=Mem.start hf;refine Qb 3 K M fun _ K=>?_;refine Uj K rfl (fun _ e7 K=>?_) fun _ e7 K=>?_
 ·exfalso;omega
 refine Qb 2 K M fun _ K=>?_;obtain⟨v10,st10,ev10,rfl,q10⟩:=Od M.fresh (hX.q M.qt);refine pg K rfl rfl (Qg rfl ev10) fun _ K=>?_;replace M:=M.quiet q10;refine Qb 3 K M ?_;exact⟨congrArg AV.bool (decide_eq_true Qc),M.qt⟩

theorem Pm{st:St}(hf:Qi st){F:Fp}{dp:Nat}{a:Au}{ka kr:AV}{sp:Nat}{F1:Fp}{S:U8}{roots:List Nat}(hX:Ht st F dp a ka kr sp F1 S roots)(hs:s<a.n): ∃v st',Jh 26 [.ptr dp 0 0,iN s] st v st'∧v=.bool (a.ok s)∧Qt st st':=by
 have wf:=hX.wf;have hen:a.n=a.acc.length:=rfl;have hrl:=hX.len;have hsa:s<a.acc.length:=hs;refine JA Tryz.func26 Tryz.ntmps26 fun T K=>?_;have M:=Mem.start hf;refine Qb 3 K M fun _ K=>?_;refine oQ K M (yK M.fresh (hX.q M.qt) hs) rfl rfl fun _ _ K M=>?_;refine Qb 4 K M fun _ K=>?_;refine pg K rfl rfl (Qf rfl (Qx (M.JH Q7 hX.row.Jd) (Qd Um rfl))) fun _ K=>?_;refine Qb 1 K M fun _ K=>?_;obtain⟨y14,hi14⟩:=Uw a.acc s Qc;obtain⟨x14,m14,f14,q14,_,la14,lo14,lp14⟩:=(Jj.mem M hX.acc Q7).load (i:=s) (cs:=_) (Ww hi14);refine pg K rfl rfl (Qe (j:=s) J5 (congrArg some q14) rfl (by rw[Uq];omega)) fun _ K=>pg K rfl rfl (Qf rfl (lo14 _ 0 _ J7 rfl)) fun _ K=>?_;refine Qb 2 K M ?_;exact⟨congrArg AV.bool (Au.Kv hi14).symm,M.qt⟩

theorem VE{st:St}(hf:Qi st){F:Fp}{dp:Nat}{a:Au}(hD:UZ st F dp a)(hs:s<a.n): ∃v st',Jh 26 [.ptr dp 0 0,.int .i64 (s:Nat)] st v st'∧v=.bool (a.ok s)∧Qt st st':=by
 obtain⟨_,_,_,_,_,_,hX⟩:=hD.x;exact Pm hf hX hs

theorem yJ{st:St}(hf:Qi st){F:Fp}{dp:Nat}{a:Au}{ka kr:AV}{sp:Nat}{F1:Fp}{S:U8}{roots:List Nat}(hX:Ht st F dp a ka kr sp F1 S roots)(hs:s<a.n)(hr:roots[s]? =some r): ∃v st',Jh 83 [.ptr dp 0 0,iN s] st v st'∧v=iN r∧Qt st st':=by
 have wf:=hX.wf;have hen:a.n=a.acc.length:=rfl;have hrl:=hX.len;refine JA Tryz.func83 Tryz.ntmps83 fun T K=>?_;have M:=Mem.start hf;refine Qb 3 K M fun _ K=>?_;refine oQ K M (yK M.fresh (hX.q M.qt) hs) rfl rfl fun _ _ K M=>?_;refine Qb 5 K M fun _ K=>?_;refine p1 K (Qf rfl (Qx (M.JH Q7 hX.row.Jd) (Qd Jb rfl))) fun _ K=>?_;refine Qb 1 K M fun _ K=>?_;obtain⟨y14,hi14⟩:=Uw roots s Qc;refine oI (Jj.mem M hX.rt Q7) (Xq hi14) K Qo Qn rfl rfl rfl fun _ _ _ _ K=>?_;refine Qb 1 K M ?_
 rw[hr]at hi14;injection hi14 with hi14;subst hi14
 exact⟨rfl,M.qt⟩

theorem zm{st:St}(hf:Qi st){F:Fp}{sp Tn:Nat}{S:U8}(hS:Zm st F sp Tn S)(h6:Tn≤6){i:Nat}(hi:i<S.length){c:Int}(hc:c<0∨((2^Tn:Nat):Int)≤c): ∃v st',Jh 74 [.ptr sp 0 0,iN i,iZ c] st v st'∧v=iZ (-1)∧Qt st st':=by
 have hp:=Ni (show Tn≤62 by omega);refine JA Tryz.func74 Tryz.ntmps74 fun T K=>?_;have M:=Mem.start hf;refine Qb 3 K M fun _ K=>?_;refine oQ K M (Kb M.fresh (hS.q M.qt) hi) rfl rfl fun _ _ K M=>?_;refine Qb 5 K M fun _ K=>?_;refine Uj K rfl (fun _ e15 K=>?_) fun _ e15 K=>?_
 ·refine Qb 2 K M fun _ K=>?_;obtain⟨v18,st18,ev18,rfl,q18⟩:=VK M.fresh (hS.q M.qt);refine pg K rfl rfl (Qg rfl ev18) fun _ K=>?_;replace M:=M.quiet q18;refine pg K rfl rfl (UU (n:=Tn) rfl rfl Qc) fun _ K=>?_;refine Qb 2 K M fun _ K=>?_;refine Jy K rfl (fun h21=>?_) fun h21=>?_
  ·refine Qb 1 K M ?_;exact⟨rfl,M.qt⟩
  exfalso;omega
 refine Qb 8 K M ?_;exact⟨rfl,M.qt⟩

theorem vF{st:St}(hf:Qi st){F:Fp}{sp Tn:Nat}{S:U8}(hS:Zm st F sp Tn S)(h6:Tn≤6)(wf:Xk Tn S){i:Nat}(hi:i<S.length)(c:Int): ∃v st',Jh 74 [.ptr sp 0 0,.int .i64 (i:Nat),.int .i64 c] st v st'∧v=.int .i64 (if 0≤c∧c<2^Tn then Y5 S i c.toNat else-1)∧Qt st st':=by
 have hp:=Em Tn
 by_cases h:0≤c∧c<2^Tn
 ·rw[if_pos h];obtain⟨k,rfl⟩: ∃k:Nat,c=((k:Nat):Int):=⟨c.toNat,by omega⟩;exact Su hf hS h6 wf hi Qc
 ·rw[if_neg h];exact zm hf hS h6 hi Qc

theorem yI{st:St}(hf:Qi st){F:Fp}{dp:Nat}{a:Au}{ka kr:AV}{sp:Nat}{F1:Fp}{S:U8}{roots:List Nat}(hX:Ht st F dp a ka kr sp F1 S roots)(hs:s<a.n)(c:Int): ∃v st',Jh 57 [.ptr dp 0 0,iN s,iZ c] st v st'∧v=iZ (if 0≤c∧c<2^a.tr then((a.go s c.toNat:Nat):Int)else-1)∧Qt st st':=by
 have wf:=hX.wf;have hen:a.n=a.acc.length:=rfl;have hrl:=hX.len;obtain⟨r,hr⟩:=Uw roots s Qc;obtain⟨hr1,hr2⟩:=hX.rts _ _ hr;refine JA Tryz.func57 Tryz.ntmps57 fun T K=>?_;have M:=Mem.start hf;refine Qb 2 K M fun _ K=>?_;refine oQ K M (GS M.fresh (hX.q M.qt)) rfl rfl fun _ _ K M=>?_;refine Qb 2 K M fun _ K=>?_;refine oQ K M (yJ M.fresh (hX.q M.qt) hs hr) rfl rfl fun _ _ K M=>?_;refine Qb 1 K M fun _ K=>?_;refine oQ K M (vF M.fresh (hX.q M.qt).i wf.tr hX.wfS hr1 c) rfl rfl fun _ _ K M=>?_;refine Qb 1 K M ?_;refine⟨congrArg (AV.int .i64) ?_,M.qt⟩;have hp:=Em a.tr
 by_cases h:0≤c∧c<2^a.tr
 ·rw[if_pos h,if_pos h,fj wf hs Qc hr2]
 ·rw[if_neg h,if_neg h]

theorem vz{st:St}(hf:Qi st){F:Fp}{dp:Nat}{a:Au}{ka kr:AV}{sp:Nat}{F1:Fp}{S:U8}{roots:List Nat}(hX:Ht st F dp a ka kr sp F1 S roots){kw:AV}(hw:Jj st.h.get [] 1 (zC w) kw): ∃v st',Jh 31 [.ptr dp 0 0,kw] st v st'∧v=aS a (Nc a 0 w)∧Qt st st':=by
 have wf:=hX.wf;have hen:a.n=a.acc.length:=rfl;have hrl:=hX.len
 have hbnw:(w.length:Int)≤9223372036854775807:=by have:=hw.Wv;rw[Qq]at this;exact this
 have hps:=wf.pos;have hp:=Em a.tr;refine JA Tryz.func31 Tryz.ntmps31 fun T K=>?_;have M:=Mem.start hf;refine Qb 3 K M fun _ K=>?_;refine p1 K (Yh JZ rfl rfl) fun _ K=>?_;refine Qb 2 K M fun _ K=>?_;refine p1 K (Q5 Ja rfl rfl (hw.len.trans (congrArg some (Qq _)))) fun _ K=>?_;refine Qb 1 K M fun _ K=>?_;refine QY (fun mm1 T st9=> ∃(i s:Nat),mm1=w.length-i∧QT [(0,.ptr dp 0 0),(4,iN s),(10,kw),(11,iZ (w.length:Nat)),(12,iN i)] T∧Mem st.h.get st.n [] st9 []∧i≤w.length∧s<a.n∧Nc a 0 w=Nc a s (w.drop i)) (fun mm1 T st9 hI=>?_) _ _ _ ⟨0,0,rfl,(K.sub rfl),M.less (.refl _),(Nat.zero_le _),hps,rfl⟩;obtain⟨i,s,rfl,K,M,hi,hs,hx⟩:=hI;refine Qb 1 K M fun _ K=>?_;refine Jy K rfl (fun h13=>?_) fun h13=>?_
 ·refine Qb 0 K M fun _ K=>?_;obtain⟨y14,hi14⟩:=Uw w i Qc;refine oI (Jj.mem M hw Q7) (Jm hi14) K Qo Qn rfl rfl rfl fun _ _ _ _ K=>?_;refine Qb 4 K M fun _ K=>?_;refine oQ K M (yI M.fresh (hX.q M.qt) hs y14) rfl rfl fun _ _ K M=>?_;refine Qb 1 K M fun _ K=>?_;have hst:0≤y14∧y14<2^a.tr∨ ¬(0≤y14∧y14<2^a.tr):=Classical.em _;refine Qb 2 K M fun _ K=>?_;refine Jy K rfl (fun h21=>?_) fun h21=>?_
  ·refine Qb 2 K M ?_;refine⟨?_,M.qt⟩
   have hy: ¬(0≤y14∧y14<2^a.tr):=fun h=>by rw[if_pos h]at h21;omega
   rw[hx,Gv hi14,if_neg hy];rfl
  refine Qb 2 K M fun _ K=>?_
  have hy:0≤y14∧y14<2^a.tr:=Classical.byContradiction fun h=>by rw[if_neg h]at h21;omega
  rw[if_pos hy]at K;exact⟨_,Qc,i+1,a.go s y14.toNat,rfl,(K.sub rfl),M.less (.refl _),Qc,(wf.UR hs (show y14.toNat<2^a.tr by omega)),(by rw[hx,Gv hi14,if_pos hy])⟩
 refine QM ?_;show W _ _ _ _ _ _ _;refine Jz ?_;have hsa:s<a.acc.length:=hs;refine QC (l:=[(0,0),(1,0),(2,0),(3,0),(4,0),(5,0),(6,0),(7,0),(8,0),(9,0)]) (by kernel_rfl) ?_;refine Jo 4 K M fun _ K=>?_;refine q1 rfl K (Qf rfl (Qx (M.JH Q7 hX.row.Jd) (Qd Um rfl))) fun _ K=>q1 rfl K (Q0 rfl) fun _ K=>?_;obtain⟨y29,hi29⟩:=Uw a.acc s Qc;refine dI rfl rfl (Jj.mem M hX.acc Q7) (Ww hi29) K J5 J7 rfl rfl rfl fun _ _ _ _ K=>?_;refine Jo 2 K M fun _ K=>?_;refine QF ?_;show W _ _ _ _ _ _ _;refine Qb 0 K M ?_;refine⟨?_,M.qt⟩;rw[hx,List.drop_eq_nil_of_le Qc,Nc];show _=AV.tup [iN s,.bool (a.ok s)];rw[Au.Kv hi29]

theorem eQ{st:St}(hf:Qi st){F:Fp}{dp:Nat}{a:Au}(hD:UZ st F dp a){kw:AV}(hw:Jj st.h.get [] 1 (zC w) kw): ∃v st',Jh 31 [.ptr dp 0 0,kw] st v st'∧v=aS a (Nc a 0 w)∧Qt st st':=by
 obtain⟨_,_,_,_,_,_,hX⟩:=hD.x;exact vz hf hX hw
end
section
open Go Go.RowKit
variable {F:Fp} {a:Au}

def AK(st st':St)(a:Au)(v:AV):Prop:= ∃(ka kn:AV) (vs:List AV) (A:QS) (F:Fp),v=.agg [.int .i64 (a.tr:Nat),ka,kn]∧Acc 0 1 A ka (bC a.acc)∧Xw st'.h.get F kn vs a.nx∧ZQ st st' F∧(A.map Prod.fst).Nodup∧ ∀c m l,(c,m,l)∈A→Qy st'.h.get c m l∧st.n≤c∧ ¬F c
theorem Qk.Kx{st0 st st':St}{X0:Fp}{M:QS}{Os:List Ob}(B:Qk st0 X0 st M Os)(q:Qt st st'){v:AV}(h:AK st st' a v): ∃ka kn vs A F,v=.agg [.int .i64 (a.tr:Nat),ka,kn]∧Acc 0 1 A ka (bC a.acc)∧Qk st0 X0 st' (M++(A++[])) (BY F kn vs a.nx::Os):=by
 obtain⟨ka,kn,vs,A,F,h1,h2,h3,h4,h5,h6⟩:=h;have B1:=B.new (o:=BY F kn vs a.nx) q h3 h4;have hlt: ∀c m l,(c,m,l)∈A→c<st'.n:=fun c m l hm=>(h6 c m l hm).1.lt q.fresh;refine⟨ka,kn,vs,A,F,h1,h2,B1.fresh,B1.le,fun c m l hm=>?_,?_,fun c m l hm=>?_,B1.obj,B1.hi,B1.dj,fun o ho c m l hm hc=>?_,B1.JB⟩
 ·rw[List.append_nil]at hm;rcases List.mem_append.1 hm with hm|hm
  ·exact B1.row c m l hm
  ·exact(h6 c m l hm).1
 ·rw[List.append_nil,List.map_append];refine List.nodup_append.2 ⟨B.nodup,h5,fun x hx y hy e=>?_⟩;subst e;obtain⟨⟨c,m,l⟩,k1,rfl⟩:=List.mem_map.1 hx;obtain⟨⟨c',m',l'⟩,k2,k3⟩:=List.mem_map.1 hy;simp only at k3;subst k3;have:=(B.row _ m l k1).lt B.fresh;have:=(h6 _ m' l' k2).2.1;omega
 ·rw[List.append_nil]at hm;rcases List.mem_append.1 hm with hm|hm
  ·exact B1.lo c m l hm
  ·exact .inl (Nat.le_trans B.le (h6 c m l hm).2.1)
 ·rw[List.append_nil]at hm;rcases List.mem_append.1 hm with hm|hm
  ·exact B1.djM o ho c m l hm hc
  ·rcases List.mem_cons.1 ho with rfl|ho
   ·exact(h6 c m l hm).2.2 hc
   ·have:=(B.hi o ho c hc).1;have:=(h6 c m l hm).2.1;omega
theorem Qk.Bs{st0 st:St}{M A:QS}{Os:List Ob}{ka kn:AV}{vs:List AV}(B:Qk st0 Xi st (M++(A++[])) (BY F kn vs a.nx::Os))(hA:Acc 0 1 A ka (bC a.acc)):AK st0 st a (.agg [.int .i64 (a.tr:Nat),ka,kn]):=by
 have hn:=B.nodup;rw[List.append_nil,List.map_append]at hn;refine⟨ka,kn,vs,A,F,rfl,hA,B.at_ (k:=0) rfl,B.uI (k:=0) rfl,(List.nodup_append.1 hn).2.1,fun c m l hm=>⟨B.row c m l (by simp[hm]),(B.lo c m l (by simp[hm])).resolve_right id,B.djM _ (List.mem_cons_self ..) c m l (by simp[hm])⟩⟩
section
variable {P:Program} {G:Env} {N:Nat} {h0:Hp} {n0:Nat} {X:List Nat} {st:St} {L A B:UA} {T:Tr AV} {ops:List Oper} {K:List (Nat×AV)} {R:Tr AV→St→Prop} {d:Nat} {ty:TypeId} {pos:String} {af:Array Edge}
theorem zR{sn:List St}{i:Nat}{rr:List (Nat×Nat)}{x y:Operand}{t e:TypeId}{c2 m2 k2:Nat}{ks v:AV}{vs:List AV}(ho:ops[i]? =some ⟨some d,.call {callee:=.builtin .append,args:= #[x,y],argTypes:= #[t,t]},ty,pos,af,none⟩)(hK:QT K T)(hM:Mem h0 n0 X st (L++(A++B)))(hA:YS A ks vs)(S:Ho P t e 1)(hx:QV G K x=some ks)(hy:QV G K y=some (.sl c2 m2 0 1 1))(hk:(L++(A++B))[k2]? =some (c2,m2,[v]))(hb:vs.length+1≤1000000000)(hN:Nat.ble (d+1) N=true)
  (hn: ∀(ks':AV) A' T' st',QT ((d,ks')::K) T'→YS A' ks' (vs++[v])→(∀c m l,(c,m,l)∈A'→(∃m l,(c,m,l)∈A)∨st.n≤c)→Mem h0 n0 X st' (L++(A'++B))→WD P G N ops (rr.map (Yq ops)) R T' st' (st'::sn)):WD P G N ops (((i,0)::rr).map (Yq ops)) R T st sn:=by
 obtain⟨ks',A',st1,h1,h2,h3,h4⟩:=hM.wk hA S hk hb;exact LH ho hK (ZL rfl hx hy h1) rfl (Nat.le_of_ble_eq_true hN) fun T' hT'=>hn ks' A' T' st1 hT' h2 h4 h3
end

theorem eP{st:St}(hf:Qi st){dp:Nat}{ka kr:AV}{sp:Nat}{F1:Fp}{S:U8}{roots:List Nat}(hX:Ht st F dp a ka kr sp F1 S roots): ∃v st',Jh 17 [.ptr dp 0 0] st v st'∧AK st st' a v∧Qt st st':=by
 have wf:=hX.wf;have hen:a.n=a.acc.length:=rfl;have hrl:=hX.len;have hmo:=wf.most;have hln:=wf.len;have htr:=wf.tr;have hp64:=J9 wf.tr;have B:=Qk.start hf;refine JA Tryz.func17 Tryz.ntmps17 fun T K=>?_;have M:=B.mem;refine au 2 K M ?_;intro c2 _ _ K _ M;refine p1 K (Yh JZ rfl rfl) fun _ K=>?_;refine Qb 1 K M fun _ K=>?_;refine QC (l:=[(0,0),(1,0),(2,0),(3,0),(4,0),(5,1),(6,0),(7,0),(8,0),(9,0)]) (by kernel_rfl) ?_;have Mq:=M;refine q1 rfl K (Q0 rfl) fun _ K=>?_;obtain⟨v10,st10,ev10,rfl,q10⟩:=Oa M.fresh (hX.q (B.step M).qt);refine qA rfl K (Qg rfl ev10) fun _ K=>?_;replace M:=M.quiet q10;have Mp:=Mq;have Mq:=M;refine Jo 3 K M fun _ K=>?_;refine Jt rfl K rfl (Qx ((B.step M).UI hf hX.row.Jd id) (Qd Um rfl)) (Qx ((B.step Mp).UI hf hX.row.Jd id) (Qd Um rfl)) (JQ (Uo (hX.acc.len.trans (congrArg some (Uq _))))) rfl Q9 fun _ K=>?_;obtain⟨v15,st15,ev15,ks15,rfl,nr15,q15⟩:=Ba M.fresh ((B.step M).FF hf hX.acc) Qc;refine qA rfl K (Qg rfl ev15) fun _ K=>?_;obtain⟨A15,hA15,M⟩:=M.Yz q15 nr15;replace hA15:=hA15.z0;simp only[X3]at M;have Mp:=Mq;have Mq:=M;refine q1 rfl K (WJ VT rfl ((Fe rfl rfl rfl).trans ((JD rfl hA15.cell rfl).trans rfl))) fun _ K=>?_;refine W6 rfl K M Y7 Q9 fun c3 _ _ K M=>?_;refine Vx (k:=0) rfl K M rfl rfl rfl QA rfl (Qa rfl (Qa hA15.cell (Qa rfl Q4))) rfl fun _ M=>?_;have Mp:=Mq;have Mq:=M;refine QF ?_;show W _ _ _ _ _ _ _;refine Jz<|Jz ?_;replace B:=(B.step M).V7;have M:=B.mem;refine Qb 3 K M fun _ K=>?_;refine p1 K (Qf rfl (Qx ((B.step M).UI hf hX.row.Jd id) (Qd Jb rfl))) fun _ K=>p1 K (Q5 Ja rfl rfl (hX.rt.len.trans (congrArg some (by rw[Qq,List.length_map])))) fun _ K=>?_;refine Qb 1 K M fun _ K=>?_;refine QY (fun mm1 T st9=> ∃(i:Nat) (vs:List AV) (kn:AV) (A:QS) (F:Fp),mm1=roots.length-i∧QT [(0,.ptr dp 0 0),(2,.ptr c2 0 0),(3,.ptr c3 0 0),(20,kr),(21,iZ (roots.length:Nat)),(22,iN i)] T∧Qk st Xi st9 ((c3,0,[iZ (a.tr:Nat),v15,kn])::(c2,0,[iZ 0,.nils,.nils])::(A15++(A++[]))) [ES F vs (a.nx.take i)]∧YS A kn vs∧i≤roots.length) (fun mm1 T st9 hI=>?_) _ _ _ ⟨0,[],.nils,[],_,rfl,(K.sub rfl),(B.step M).less (.refl _),.none,(Nat.zero_le _)⟩;obtain⟨i,vs,kn,A,F,rfl,K,B,hA4,hi⟩:=hI;have M:=B.mem;refine Qb 1 K M fun _ K=>?_;refine Jy K rfl (fun h23=>?_) fun h23=>?_
 ·refine Qb 0 K M fun _ K=>?_;obtain⟨y24,hi24⟩:=Uw roots i Qc;refine oI ((B.step M).FF hf hX.rt) (Xq hi24) K Qo Qn rfl rfl rfl fun _ _ _ _ K=>?_;refine Qb 1 K M fun _ K=>?_;refine QC (l:=[(2,0),(3,0),(4,0),(5,0),(6,0),(7,0),(0,0),(1,1),(8,0),(9,0),(10,0),(11,0)]) (by kernel_rfl) ?_;have Mq:=M;refine Jo 3 K M fun _ K=>?_;refine q1 rfl K (Qf rfl (Qx ((B.step M).UI hf hX.row.Jd id) (Qd JK rfl))) fun _ K=>q1 rfl K (Q0 rfl) fun _ K=>?_;obtain⟨hr1,hr2⟩:=hX.rts _ _ hi24;have hXi:=(hX.q (B.step M).qt).i;obtain⟨v33,st33,ev33,ks33,rfl,nr33,q33⟩:=vE M.fresh hXi wf.tr hX.wfS hr1;refine qA rfl K (Qg rfl ev33) fun _ K=>?_;obtain⟨A33,hA33,M⟩:=M.Yz q33 nr33;replace hA33:=hA33.z0;simp only[X3]at M;have Mp:=Mq;have Mq:=M;refine Jo 1 K M fun _ K=>?_;refine Jt rfl K rfl (M.load (k:=0) rfl (Qd Q8 rfl)) (Mp.load (k:=0) rfl (Qd Q8 rfl)) (JQ (Uo hA4.len)) rfl Q9 fun _ K=>?_;refine XY rfl K M QQ Uu rfl ((JD rfl hA33.cell rfl).trans rfl) (Qa hA33.cell Q4) rfl rfl fun c34 _ _ K M=>?_;refine zR (k2:=0) (L:=((c34,0,[v33])::(c3,0,[iZ (a.tr:Nat),v15,kn])::(c2,0,[iZ 0,.nils,.nils])::(A15++[]))) (A:=A) (B:=(A33++[])) rfl K (Mem.cast M U0) hA4 QQ rfl rfl rfl (by have:=((B.step M).at_ (k:=0) rfl).ln;rw[List.length_take]at this;omega) rfl fun ks35 A35 _ _ K hA35 _ M=>?_;simp only[X3]at M;refine Jo 1 K M fun _ K=>?_;refine YG (k:=1) rfl K M rfl rfl rfl Uy (hA35.cell) rfl fun _ M=>?_;have Mp:=Mq;have Mq:=M;refine QF ?_;show W _ _ _ _ _ _ _;refine Qb 2 K M fun _ K=>?_;replace B:=B.step M;obtain⟨Fr,B⟩:=Qk.ZD (L:=((c34,0,[v33])::(c3,0,[iZ (a.tr:Nat),v15,ks35])::(c2,0,[iZ 0,.nils,.nils])::(A15++(A35++[])))) (A:=A33) (B:=[]) (B.cast U0) hA33 (wf.Fx _ (List.mem_of_getElem? hr2));replace B:=B.cast (M':=((c34,0,[v33])::(c3,0,[iZ (a.tr:Nat),v15,ks35])::(c2,0,[iZ 0,.nils,.nils])::(A15++(A35++[])))) U0
  have htk:a.nx.take i++[WE a.tr S y24]=a.nx.take (i+1):=by rw[List.take_add_one,hr2];rfl
  rw[htk]at B;have M:=B.mem;exact⟨_,Qc,i+1,_,ks35,A35,_,rfl,(K.sub rfl),(B.step M).less (.cons _ (.refl _)),hA35,Qc⟩
 refine QM ?_;show W _ _ _ _ _ _ _;refine Qb 1 K M fun _ K=>?_;refine QW (k:=1) K M rfl rfl rfl QA rfl (Qa rfl (Qa hA15.cell (Qa hA4.cell Q4))) rfl fun _ M=>?_;refine Qb 0 K M ?_;refine⟨?_,(B.step M).qt⟩;replace B:=B.step M;have hti:a.nx.take i=a.nx:=List.take_of_length_le Qc;rw[hti]at B;obtain⟨F',B'⟩:=Qk.Bt (L:=((c3,0,[iZ (a.tr:Nat),v15,kn])::(c2,0,[iZ (a.tr:Nat),v15,kn])::A15)) (A:=A) (B:=[]) (B.cast U0) hA4;exact Qk.Bs (M:=[(c3,0,[iZ (a.tr:Nat),v15,kn]),(c2,0,[iZ (a.tr:Nat),v15,kn])]) (A:=A15) (B'.cast Q7) hA15

theorem Oc{st:St}(hf:Qi st){dp:Nat}(hD:UZ st F dp a): ∃v st',Jh 17 [.ptr dp 0 0] st v st'∧AK st st' a v∧Qt st st':=by
 obtain⟨_,_,_,_,_,_,hX⟩:=hD.x;exact eP hf hX
end
section
open Go Go.RowKit

theorem V5{α:Type}(f:α→AV){L:List α}{j:Nat}{x:α}(h:L[j]? =some x):nth (L.map f) (0+j *1)=some (f x):=by
 rw[U7,Nat.zero_add,Nat.mul_one,List.getElem?_map,h];rfl
theorem Wn{α:Type}(f:α→AV)(w:α): ∀{L:List α} {j:Nat},j<L.length→Zn [f w] (0+j *1) (L.map f)=some ((L.set j w).map f):=by
 intro L j h;rw[Nat.zero_add,Nat.mul_one]
 induction L generalizing j with
 |nil=>simp at h
 |cons a L ih=>
  cases j with
  |zero=>rfl
  |succ j=>
   rw[List.map_cons,Np,ih (by simpa using h)];rfl
theorem IT{α:Type}(f:α→AV)(L:List α):(L.map fun x=>[f x]).flatten=L.map f:=by
 induction L with
 |nil=>rfl
 |cons a L ih=>rw[List.map_cons,List.flatten_cons,ih];rfl
theorem Acc.ui{α:Type}{f:α→AV}{n0:Nat}{A:QS}{ks:AV}{L:List α}(hA:Acc n0 1 A ks (L.map fun x=>[f x]))(hL:0<L.length): ∃c m,ks=.sl c m 0 L.length 1∧A=[(c,m,L.map f)]:=by
 generalize hg:(L.map fun x=>[f x])=ls at hA
 cases hA with
 |none=>have h0:=congrArg List.length hg;rw[List.length_map,List.length_nil]at h0;omega
 |own h1 h2 h3=>
  rename_i c m;subst hg;exact⟨c,m,by rw[List.length_map],by rw[IT]⟩
theorem Acc.ofM{α:Type}(f:α→AV){c m:Nat}{L:List α}(hb:L.length≤1000000000):Acc 0 1 [(c,m,L.map f)] (.sl c m 0 L.length 1) (L.map fun x=>[f x]):=by
 have:=Acc.own (n0:=0) (z:=1) (c:=c) (m:=m) (ls:=L.map fun x=>[f x]) (Nat.zero_le _) (fun cs hc=>by obtain⟨x,_,rfl⟩:=List.mem_map.1 hc;rfl) (by rw[List.length_map];exact hb);rw[IT,List.length_map]at this;exact this
theorem Qy.fP{α:Type}{f:α→AV}{h:Hp}{c m n:Nat}{L:List α}(r:Qy h c m (L.map f))(hn:L.length=n)(hb:L.length≤1000000000):Jj h [] 1 (L.map fun x=>[f x]) (.sl c m 0 n 1):=by
 subst hn;have:=Jj.own (X:=[]) (z:=1) (ls:=L.map fun x=>[f x]) (c:=c) (m:=m) (by rw[IT];exact r) (fun cs hc=>by obtain⟨x,_,rfl⟩:=List.mem_map.1 hc;rfl) Q7 (by rw[List.length_map];omega);rw[List.length_map]at this;exact this
section
variable {P:Program} {G:Env} {N:Nat} {h0:Hp} {n0:Nat} {X:List Nat} {st:St} {M:QS} {T:Tr AV} {ops rest:List Oper} {K:List (Nat×AV)} {R:Tr AV→St→Prop} {d:Nat} {t ty:TypeId} {pos:String} {af:Array Edge}
theorem Ds{α:Type}(z:α): ∀n,Vk n [z]=List.replicate n z
 |0=>rfl
 |n+1=>by rw[List.replicate_succ,←Ds z n];show ZB [z] (Vk n [z])=_;rw[U6];rfl
theorem LC{α:Type}(f:α→AV)(z:α){x:Operand}{n:Nat}{e:TypeId}(hK:QT K T)(hM:Mem h0 n0 X st M)(S:Ho P t e 1)(hz:zeroOf P e=some [f z])(hx:QV G K x=some (.int .i64 (n:Nat)))(hb:n≤1000000000)(hN:Nat.ble (d+1) N=true)
  (hn: ∀(c:Nat) T' st',QT ((d,.sl c 0 0 n 1)::K) T'→Mem h0 n0 X st' ((c,0,(List.replicate n z).map f)::M)→WR P G N ops rest R T' st'):WR P G N ops (⟨some d,.makeSlice t x x,ty,pos,af,none⟩::rest) R T st:=by
 refine EC (v:=.sl st.n 0 0 n 1) (st1:=⟨st.n+1,st.h.set st.n (.row false [(((List.replicate n z).map f).length,0,some ((List.replicate n z).map f))])⟩) hK (.of fun T hT c d ty pos af g=>?_) (Nat.le_of_ble_eq_true hN) fun T' hT'=>hn st.n T' _ hT' (hM.alloc _);show(ob (QG G T x) fun a=>ob (QG G T x) fun b=>V9 P t a b st)=_;rw[hT.QG hx,Ql,Ql];unfold V9;have h1:O7 ((n:Nat):Int)=some n:=rfl;simp only[S.u,h1,Ql,S.s,QO,hz,S.c];rw[show Nat.beq (Zh [f z]) 1=true from rfl,show Nat.ble 1 (Zh [f z])=true from rfl,Nat.ble_eq_true_of_le (Nat.le_refl n),Nat.ble_eq_true_of_le hb,Nat.ble_eq_true_of_le S.b];simp only[QO,Ye,Ji,Ds,List.map_replicate]
end
end
end Go.Proofs.YtiknomepbklibaaGreatDoor
