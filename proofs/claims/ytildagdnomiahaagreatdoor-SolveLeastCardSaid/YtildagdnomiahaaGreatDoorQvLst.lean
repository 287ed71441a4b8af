/-
  solve.found where there are variables: sets by letters, values.
-/
import Derived.Test.YtildagdnomiahaaGreatDoorQvRdD
namespace Go.Proofs.YtildagdnomiahaaGreatDoor
open Go Go.RowKit
set_option maxHeartbeats 8000000
set_option linter.unusedVariables false
set_option linter.unusedSimpArgs false
set_option linter.unnecessarySimpa false
set_option linter.unusedSectionVars false
set_option maxRecDepth 100000
variable {st:St} {w:List Nat}

def UK(w:List Nat)(i:Nat):Nat→List Int
 |0=>[]
 |x+1=>if(w[x]?).getD 0/2^i % 2=1 then UK w i x++[((x:Nat):Int)]else UK w i x
theorem YN{i x y:Nat}(h:w[x]? =some y)(hb:((y/2^i % 2:Nat):Int)=1):UK w i (x+1)=UK w i x++[((x:Nat):Int)]:=by rw[UK,h,Option.getD_some,if_pos Qd]
theorem Xa{i x y:Nat}(h:w[x]? =some y)(hb: ¬((y/2^i % 2:Nat):Int)=1):UK w i (x+1)=UK w i x:=by rw[UK,h,Option.getD_some,if_neg Qd]
theorem EK(w:List Nat)(i:Nat): ∀x,(UK w i x).length≤x
 |0=>Nat.le_refl _
 |x+1=>by rw[UK];have:=EK w i x;split<;>simp<;>omega
def W3(k:AV)(l:List Int):Prop:=l=[]→k=.nils
theorem Mem.Xs{h0:Hp}{n0:Nat}{X:List Nat}{st':St}{M A:ZJ}(h:Mem h0 n0 X st M)(q:Qt st st')(s:qm st.n st' A):Mem h0 n0 X st' (M++(A++[])):=by
 rw[List.append_nil];refine h.Tj (q.KR []) (fun c hc=>by simp at hc) ?_ fun c m l hm=>?_
 ·rw[List.map_append];refine List.nodup_append.2 ⟨h.nodup,s.nodup,fun x hx y hy e=>?_⟩;subst e;obtain⟨⟨c1,m1,l1⟩,h1,rfl⟩:=List.mem_map.1 hx;obtain⟨⟨c2,m2,l2⟩,h2,e⟩:=List.mem_map.1 hy;have e:c2=c1:=e;subst e;have:=h.lt _ _ _ h1;have:=s.own _ _ _ h2;omega
 ·rcases List.mem_append.1 hm with hm|hm
  ·exact .inl ⟨hm,by simp⟩
  ·exact .inr ⟨s.row _ _ _ hm,.inr (s.own _ _ _ hm)⟩
theorem Ql.im{st0:St}{M A:ZJ}{Os:List Ob}(B:Ql st0 Ei st M Os)(hs:A.Sublist M):qm st0.n st A:=⟨fun c m l h=>B.row c m l (hs.subset h),fun c m l h=>(B.lo c m l (hs.subset h)).resolve_right id,B.nodup.sublist (hs.map _)⟩
theorem W3.app{k:AV}{l:List Int}{z:Int}:W3 k (l++[z]):=fun h=>by simp at h

theorem RG(hf:Qh st){kw:AV}(hw:Jg st.h.get [] 1 (zC (zN w)) kw)(hwl:w.length≤1000)(hwb: ∀y∈w,y≤64): ∃v st',QV 108 [kw,iZ 1] st v st'∧ ∃c k0 A0,v=.sl c 0 0 1 1∧qm st.n st' ((c,0,[k0])::(A0))∧Acc st.n 1 A0 k0 (zC (UK w 0 w.length))∧W3 k0 (UK w 0 w.length)∧Qt st st':=by
 refine Jv Tryz.func108 Tryz.ntmps108 fun T K=>?_;have M:=Mem.start hf;refine Qb 2 K M fun _ K=>?_;refine Em id AV.nils (n:=1) K M J3 Yt rfl Qd rfl fun c10 _ _ K M=>?_;replace M:Mem st.h.get st.n [] _ [(c10,0,[.nils])]:=M;refine Qb 2 K M fun _ K=>?_;refine p1 K (Q0 Jm rfl rfl (hw.len.trans (congrArg some (by rw[Qy,List.length_map])))) fun _ K=>?_;refine Qb 1 K M fun _ K=>?_;refine Je (fun mm1 T st9=> ∃(xx:Nat) (k0:AV) (A0:Uc),mm1=w.length-xx∧QH [(1,iZ 1),(4,.nils),(5,.sl c10 0 0 1 1),(11,kw),(12,iZ (w.length:Nat)),(13,iN xx)] T∧Mem st.h.get st.n [] st9 ((c10,0,[k0])::(A0++[]))∧xx≤w.length∧Acc st.n 1 A0 k0 (zC (UK w 0 xx))∧W3 k0 (UK w 0 xx)) (fun mm1 T st9 hI=>?_) _ _ _ ⟨0,.nils,[],rfl,(K.sub rfl),M.less (.refl _),(Nat.zero_le _),.none,(fun _=>rfl)⟩;obtain⟨xx,k0,A0,rfl,K,M,hx,hA0,hS0⟩:=hI;refine Qb 1 K M fun _ K=>?_;refine U8 K rfl (fun h14=>?_) fun h14=>?_
 ·refine Qb 1 K M fun _ K=>?_;obtain⟨y16,hi16⟩:=YL w xx Qd;refine oI (Jg.mem M hw Qx) (Fa hi16) K QD Qs rfl rfl rfl fun _ _ _ _ K=>?_;refine Qb 4 K M fun _ K=>?_;refine QC ?_;refine Qb 1 K M fun _ K=>?_;refine UJ K rfl (fun h20=>?_) fun h20=>?_
  ·have hb20:=h20;replace h20:=of_decide_eq_true h20;refine Qb 2 K M fun _ K=>?_;have hyb:y16≤64:=hwb y16 (List.mem_of_getElem? hi16);have hsh:y16/2^0≤y16:=Nat.div_le_self _ _;refine Qb 2 K M fun _ K=>?_;refine p1 K (WG (a:=y16) (n:=0) rfl rfl Qd) fun _ K=>p1 K (WH (a:=(y16/2^0)) rfl rfl Qd) fun _ K=>?_;refine Qb 1 K M fun _ K=>?_;refine U8 K rfl (fun h26=>?_) fun h26=>?_
   ·refine Qb 4 K M fun _ K=>?_;refine p1 K (Qn QK rfl rfl Q9) fun _ K=>?_;refine au 3 K M ?_;intro c34 _ _ K _ M;refine FK (k2:=0) (L:=[(c34,0,[iN xx]),(c10,0,[k0])]) (B:=[]) K M hA0 QR rfl rfl rfl rfl (by rw[Qy];have:=EK w 0 xx;omega) rfl fun ks35 A35 _ _ K hA35 M=>?_;refine p1 K (Qn QK rfl rfl Q9) fun _ K=>?_;refine Jk (k:=1) K M rfl rfl rfl XP (hA35.cell) rfl fun _ M=>?_;refine Qb 0 K M fun _ K=>?_;have hbit0:=h26;obtain⟨kr0,hq9⟩: ∃z,z=ks35:=⟨_,rfl⟩;subst hq9;obtain⟨Ar0,hq9⟩: ∃z,z=A35:=⟨_,rfl⟩;subst hq9;have hAr0:=hA35;replace M:=M.less (.cons _ (.refl _));replace M:=Mem.cast (M':=((c10,0,[kr0])::(Ar0++[]))) M (by rfl);refine Qb 2 K M fun _ K=>?_;refine QC ?_;refine Qb 1 K M fun _ K=>?_;refine UJ K rfl (fun h20=>?_) fun h20=>?_
    ·have hb20:=h20;replace h20:=of_decide_eq_true h20
     exfalso;omega
    have hb20:=h20;replace h20:=of_decide_eq_false h20;refine QM ?_;show W _ _ _ _ _ _ _;refine Qb 2 K M fun _ K=>?_;exact⟨_,Qd,xx+1,kr0,Ar0,rfl,(K.sub rfl),M.less (.refl _),Qd,(by rw[YN hi16 hbit0,JJ];exact hAr0),(by rw[YN hi16 hbit0];exact W3.app)⟩
   refine Qb 0 K M fun _ K=>?_;have hbit0:=h26;refine Qb 2 K M fun _ K=>?_;refine QC ?_;refine Qb 1 K M fun _ K=>?_;refine UJ K rfl (fun h20=>?_) fun h20=>?_
   ·have hb20:=h20;replace h20:=of_decide_eq_true h20
    exfalso;omega
   have hb20:=h20;replace h20:=of_decide_eq_false h20;refine QM ?_;show W _ _ _ _ _ _ _;refine Qb 2 K M fun _ K=>?_;exact⟨_,Qd,xx+1,k0,A0,rfl,(K.sub rfl),M.less (.refl _),Qd,(by rw[Xa hi16 hbit0];exact hA0),(by rw[Xa hi16 hbit0];exact hS0)⟩
  have hb20:=h20;replace h20:=of_decide_eq_false h20
  exfalso;omega
 refine QM ?_;show W _ _ _ _ _ _ _;refine Qb 2 K M ?_
 have hxe:xx=w.length:=by omega
 subst hxe;exact⟨c10,k0,A0,rfl,M.kQ (A:=(c10,0,[k0])::(A0)) Qx,hA0,hS0,M.qt⟩

theorem RF(hf:Qh st){kw:AV}(hw:Jg st.h.get [] 1 (zC (zN w)) kw)(hwl:w.length≤1000)(hwb: ∀y∈w,y≤64): ∃v st',QV 108 [kw,iZ 2] st v st'∧ ∃c k0 k1 A0 A1,v=.sl c 0 0 2 1∧qm st.n st' ((c,0,[k0,k1])::(A0++A1))∧Acc st.n 1 A0 k0 (zC (UK w 0 w.length))∧W3 k0 (UK w 0 w.length)∧Acc st.n 1 A1 k1 (zC (UK w 1 w.length))∧W3 k1 (UK w 1 w.length)∧Qt st st':=by
 refine Jv Tryz.func108 Tryz.ntmps108 fun T K=>?_;have M:=Mem.start hf;refine Qb 2 K M fun _ K=>?_;refine Em id AV.nils (n:=2) K M J3 Yt rfl Qd rfl fun c10 _ _ K M=>?_;replace M:Mem st.h.get st.n [] _ [(c10,0,[.nils,.nils])]:=M;refine Qb 2 K M fun _ K=>?_;refine p1 K (Q0 Jm rfl rfl (hw.len.trans (congrArg some (by rw[Qy,List.length_map])))) fun _ K=>?_;refine Qb 1 K M fun _ K=>?_;refine Je (fun mm1 T st9=> ∃(xx:Nat) (k0:AV) (k1:AV) (A0:Uc) (A1:Uc),mm1=w.length-xx∧QH [(1,iZ 2),(4,.nils),(5,.sl c10 0 0 2 1),(11,kw),(12,iZ (w.length:Nat)),(13,iN xx)] T∧Mem st.h.get st.n [] st9 ((c10,0,[k0,k1])::(A0++(A1++[])))∧xx≤w.length∧Acc st.n 1 A0 k0 (zC (UK w 0 xx))∧W3 k0 (UK w 0 xx)∧Acc st.n 1 A1 k1 (zC (UK w 1 xx))∧W3 k1 (UK w 1 xx)) (fun mm1 T st9 hI=>?_) _ _ _ ⟨0,.nils,.nils,[],[],rfl,(K.sub rfl),M.less (.refl _),(Nat.zero_le _),.none,(fun _=>rfl),.none,(fun _=>rfl)⟩;obtain⟨xx,k0,k1,A0,A1,rfl,K,M,hx,hA0,hS0,hA1,hS1⟩:=hI;refine Qb 1 K M fun _ K=>?_;refine U8 K rfl (fun h14=>?_) fun h14=>?_
 ·refine Qb 1 K M fun _ K=>?_;obtain⟨y16,hi16⟩:=YL w xx Qd;refine oI (Jg.mem M hw Qx) (Fa hi16) K QD Qs rfl rfl rfl fun _ _ _ _ K=>?_;refine Qb 4 K M fun _ K=>?_;refine QC ?_;refine Qb 1 K M fun _ K=>?_;refine UJ K rfl (fun h20=>?_) fun h20=>?_
  ·have hb20:=h20;replace h20:=of_decide_eq_true h20;refine Qb 2 K M fun _ K=>?_;have hyb:y16≤64:=hwb y16 (List.mem_of_getElem? hi16);have hsh:y16/2^0≤y16:=Nat.div_le_self _ _;refine Qb 2 K M fun _ K=>?_;refine p1 K (WG (a:=y16) (n:=0) rfl rfl Qd) fun _ K=>p1 K (WH (a:=(y16/2^0)) rfl rfl Qd) fun _ K=>?_;refine Qb 1 K M fun _ K=>?_;refine UJ K rfl (fun h26=>?_) fun h26=>?_
   ·have hb26:=h26;replace h26:=of_decide_eq_true h26;refine Qb 4 K M fun _ K=>?_;refine p1 K (Qn QK rfl rfl Q9) fun _ K=>?_;refine au 3 K M ?_;intro c34 _ _ K _ M;refine FK (k2:=0) (L:=[(c34,0,[iN xx]),(c10,0,[k0,k1])]) (B:=(A1++[])) K M hA0 QR rfl rfl rfl rfl (by rw[Qy];have:=EK w 0 xx;omega) rfl fun ks35 A35 _ _ K hA35 M=>?_;refine p1 K (Qn QK rfl rfl Q9) fun _ K=>?_;refine Jk (k:=1) K M rfl rfl rfl XP (hA35.cell) rfl fun _ M=>?_;refine Qb 0 K M fun _ K=>?_;have hbit0:=h26;obtain⟨kr0,hq9⟩: ∃z,z=ks35:=⟨_,rfl⟩;subst hq9;obtain⟨Ar0,hq9⟩: ∃z,z=A35:=⟨_,rfl⟩;subst hq9;have hAr0:=hA35;replace M:=M.less (.cons _ (.refl _));replace M:=Mem.cast (M':=((c10,0,[kr0,k1])::(Ar0++(A1++[])))) M (by rfl);refine Qb 2 K M fun _ K=>?_;refine QC ?_;refine Qb 1 K M fun _ K=>?_;refine UJ K rfl (fun h20=>?_) fun h20=>?_
    ·have hb20:=h20;replace h20:=of_decide_eq_true h20;refine Qb 2 K M fun _ K=>?_;have hsh:y16/2^1≤y16:=Nat.div_le_self _ _;refine Qb 2 K M fun _ K=>?_;refine p1 K (WG (a:=y16) (n:=1) rfl rfl Qd) fun _ K=>p1 K (WH (a:=(y16/2^1)) rfl rfl Qd) fun _ K=>?_;refine Qb 1 K M fun _ K=>?_;refine UJ K rfl (fun h26=>?_) fun h26=>?_
     ·have hb26:=h26;replace h26:=of_decide_eq_true h26;refine Qb 4 K M fun _ K=>?_;refine p1 K (Qn QK rfl rfl Q9) fun _ K=>?_;refine au 3 K M ?_;intro c34 _ _ K _ M;refine FK (k2:=0) (L:=((c34,0,[iN xx])::(c10,0,[kr0,k1])::(Ar0++[]))) (B:=[]) K (Mem.cast M Za) hA1 QR rfl rfl rfl rfl (by rw[Qy];have:=EK w 1 xx;omega) rfl fun ks35 A35 _ _ K hA35 M=>?_;simp only[W4]at M;refine p1 K (Qn QK rfl rfl Q9) fun _ K=>?_;refine Jk (k:=1) K M rfl rfl rfl XP (hA35.cell) rfl fun _ M=>?_;refine Qb 0 K M fun _ K=>?_;have hbit1:=h26;obtain⟨kr1,hq9⟩: ∃z,z=ks35:=⟨_,rfl⟩;subst hq9;obtain⟨Ar1,hq9⟩: ∃z,z=A35:=⟨_,rfl⟩;subst hq9;have hAr1:=hA35;replace M:=M.less (.cons _ (.refl _));replace M:=Mem.cast (M':=((c10,0,[kr0,kr1])::(Ar0++(Ar1++[])))) M (by rfl);refine Qb 2 K M fun _ K=>?_;refine QC ?_;refine Qb 1 K M fun _ K=>?_;refine UJ K rfl (fun h20=>?_) fun h20=>?_
      ·have hb20:=h20;replace h20:=of_decide_eq_true h20
       exfalso;omega
      have hb20:=h20;replace h20:=of_decide_eq_false h20;refine QM ?_;show W _ _ _ _ _ _ _;refine Qb 2 K M fun _ K=>?_;exact⟨_,Qd,xx+1,kr0,kr1,Ar0,Ar1,rfl,(K.sub rfl),M.less (.refl _),Qd,(by rw[YN hi16 hbit0,JJ];exact hAr0),(by rw[YN hi16 hbit0];exact W3.app),(by rw[YN hi16 hbit1,JJ];exact hAr1),(by rw[YN hi16 hbit1];exact W3.app)⟩
     have hb26:=h26;replace h26:=of_decide_eq_false h26;refine Qb 0 K M fun _ K=>?_;have hbit1:=h26;refine Qb 2 K M fun _ K=>?_;refine QC ?_;refine Qb 1 K M fun _ K=>?_;refine UJ K rfl (fun h20=>?_) fun h20=>?_
     ·have hb20:=h20;replace h20:=of_decide_eq_true h20
      exfalso;omega
     have hb20:=h20;replace h20:=of_decide_eq_false h20;refine QM ?_;show W _ _ _ _ _ _ _;refine Qb 2 K M fun _ K=>?_;exact⟨_,Qd,xx+1,kr0,k1,Ar0,A1,rfl,(K.sub rfl),M.less (.refl _),Qd,(by rw[YN hi16 hbit0,JJ];exact hAr0),(by rw[YN hi16 hbit0];exact W3.app),(by rw[Xa hi16 hbit1];exact hA1),(by rw[Xa hi16 hbit1];exact hS1)⟩
    have hb20:=h20;replace h20:=of_decide_eq_false h20
    exfalso;omega
   have hb26:=h26;replace h26:=of_decide_eq_false h26;refine Qb 0 K M fun _ K=>?_;have hbit0:=h26;refine Qb 2 K M fun _ K=>?_;refine QC ?_;refine Qb 1 K M fun _ K=>?_;refine UJ K rfl (fun h20=>?_) fun h20=>?_
   ·have hb20:=h20;replace h20:=of_decide_eq_true h20;refine Qb 2 K M fun _ K=>?_;have hsh:y16/2^1≤y16:=Nat.div_le_self _ _;refine Qb 2 K M fun _ K=>?_;refine p1 K (WG (a:=y16) (n:=1) rfl rfl Qd) fun _ K=>p1 K (WH (a:=(y16/2^1)) rfl rfl Qd) fun _ K=>?_;refine Qb 1 K M fun _ K=>?_;refine UJ K rfl (fun h26=>?_) fun h26=>?_
    ·have hb26:=h26;replace h26:=of_decide_eq_true h26;refine Qb 4 K M fun _ K=>?_;refine p1 K (Qn QK rfl rfl Q9) fun _ K=>?_;refine au 3 K M ?_;intro c34 _ _ K _ M;refine FK (k2:=0) (L:=((c34,0,[iN xx])::(c10,0,[k0,k1])::(A0++[]))) (B:=[]) K (Mem.cast M Za) hA1 QR rfl rfl rfl rfl (by rw[Qy];have:=EK w 1 xx;omega) rfl fun ks35 A35 _ _ K hA35 M=>?_;simp only[W4]at M;refine p1 K (Qn QK rfl rfl Q9) fun _ K=>?_;refine Jk (k:=1) K M rfl rfl rfl XP (hA35.cell) rfl fun _ M=>?_;refine Qb 0 K M fun _ K=>?_;have hbit1:=h26;obtain⟨kr1,hq9⟩: ∃z,z=ks35:=⟨_,rfl⟩;subst hq9;obtain⟨Ar1,hq9⟩: ∃z,z=A35:=⟨_,rfl⟩;subst hq9;have hAr1:=hA35;replace M:=M.less (.cons _ (.refl _));replace M:=Mem.cast (M':=((c10,0,[k0,kr1])::(A0++(Ar1++[])))) M (by rfl);refine Qb 2 K M fun _ K=>?_;refine QC ?_;refine Qb 1 K M fun _ K=>?_;refine UJ K rfl (fun h20=>?_) fun h20=>?_
     ·have hb20:=h20;replace h20:=of_decide_eq_true h20
      exfalso;omega
     have hb20:=h20;replace h20:=of_decide_eq_false h20;refine QM ?_;show W _ _ _ _ _ _ _;refine Qb 2 K M fun _ K=>?_;exact⟨_,Qd,xx+1,k0,kr1,A0,Ar1,rfl,(K.sub rfl),M.less (.refl _),Qd,(by rw[Xa hi16 hbit0];exact hA0),(by rw[Xa hi16 hbit0];exact hS0),(by rw[YN hi16 hbit1,JJ];exact hAr1),(by rw[YN hi16 hbit1];exact W3.app)⟩
    have hb26:=h26;replace h26:=of_decide_eq_false h26;refine Qb 0 K M fun _ K=>?_;have hbit1:=h26;refine Qb 2 K M fun _ K=>?_;refine QC ?_;refine Qb 1 K M fun _ K=>?_;refine UJ K rfl (fun h20=>?_) fun h20=>?_
    ·have hb20:=h20;replace h20:=of_decide_eq_true h20
     exfalso;omega
    have hb20:=h20;replace h20:=of_decide_eq_false h20;refine QM ?_;show W _ _ _ _ _ _ _;refine Qb 2 K M fun _ K=>?_;exact⟨_,Qd,xx+1,k0,k1,A0,A1,rfl,(K.sub rfl),M.less (.refl _),Qd,(by rw[Xa hi16 hbit0];exact hA0),(by rw[Xa hi16 hbit0];exact hS0),(by rw[Xa hi16 hbit1];exact hA1),(by rw[Xa hi16 hbit1];exact hS1)⟩
   have hb20:=h20;replace h20:=of_decide_eq_false h20
   exfalso;omega
  have hb20:=h20;replace h20:=of_decide_eq_false h20
  exfalso;omega
 refine QM ?_;show W _ _ _ _ _ _ _;refine Qb 2 K M ?_
 have hxe:xx=w.length:=by omega
 subst hxe;exact⟨c10,k0,k1,A0,A1,rfl,M.kQ (A:=(c10,0,[k0,k1])::(A0++A1)) Qx,hA0,hS0,hA1,hS1,M.qt⟩

theorem xT(hf:Qh st){F:Fp}{dp:Nat}{a:Au}(hD:JH st F dp a)(C:Canon a)(htr0:a.tr=1)(hw0:UE a=some w)(hwl:w.length≤1000)(hwb: ∀y∈w,y≤64){nm0:List Nat}{or0 YG:Int}{kv:AV}(hV:Jg st.h.get [] 3 [[.str nm0,iZ or0,iZ YG]] kv): ∃v st',QV 66 [.ptr dp 0 0,kv] st v st'∧ ∃kl k0 A0 Al,v=.tup [kl,.bool true]∧qm st.n st' (A0++Al)∧Acc 0 1 A0 k0 (zC (UK w 0 w.length))∧W3 k0 (UK w 0 w.length)∧Acc 0 3 Al kl [[.str nm0,iZ or0,k0]]∧Qt st st':=by
 have B:=Ql.start hf;refine Jv Tryz.func66 Tryz.ntmps66 fun T K=>?_;have M:=B.mem;refine Qb 3 K M fun _ K=>?_;obtain⟨v14,st14,ev14,⟨w',kw,hsw,rfl,nrw⟩,q14⟩:=WA M.fresh (hD.q (B.step M).qt) C (by rw[hw0];rfl);refine p1 K (Qf rfl ev14) fun _ K=>?_
 obtain rfl:w=w':=by rw[hw0]at hsw;injection hsw
 obtain⟨Aw,hAw,M⟩:=M.Yq q14 nrw;replace hAw:=hAw.z0;replace M:=Mem.cast (M':=(Aw++[])) M Qx;refine Qb 9 K M fun _ K=>?_;obtain⟨v21,st21,ev21,rfl,q21⟩:=Yg M.fresh (hD.q (B.step M).qt);refine pg K rfl rfl (Qf rfl ev21) fun _ K=>?_;replace M:=M.quiet q21;refine Qb 1 K M fun _ K=>?_;refine pg K rfl rfl (Q0 QJ rfl rfl (show J8 kv=some 1 from hV.len)) fun _ K=>?_;refine Qb 2 K M fun _ K=>?_;refine UJ K rfl (fun h25=>?_) fun h25=>?_
 ·have hb25:=h25
  replace h25: ¬(((a.tr:Nat):Int)=((1:Nat):Int)):=by first|exact of_decide_eq_false h25|exact yF h25|simpa using h25
  exfalso;omega
 have hb25:=h25
 replace h25:(((a.tr:Nat):Int)=((1:Nat):Int)):=by first|exact of_decide_eq_true h25|exact yT h25|simpa using h25
 refine Qb 2 K M fun _ K=>?_;refine p1 K (Q0 QJ rfl rfl (show J8 kv=some 1 from hV.len)) fun _ K=>?_;obtain⟨v29,st29,ev29,cs,k0,A0,rfl,hSg,hA0,hS0,q29⟩:=RG M.fresh (Mem.Zv (L:=[]) (B:=[]) M hAw) hwl hwb;refine p1 K (Qf rfl ev29) fun _ K=>?_;replace M:=M.Xs q29 hSg;replace hA0:=hA0.z0;replace M:=Mem.cast (M':=((cs,0,[k0])::(Aw++(A0++[])))) (Mem.perm M List.perm_middle) Qx;refine Qb 1 K M fun _ K=>?_;refine VO K M JT Ys rfl rfl rfl rfl rfl fun c30 _ _ K M=>?_;refine Qb 1 K M fun _ K=>?_;replace M:=Mem.cast (M':=((cs,0,[k0])::(Aw++(A0++([(c30,0,[])]++[]))))) (Mem.perm M (List.perm_append_comm (α:=Nat×Nat×List AV) (l₁:=[(c30,0,[])]) (l₂:=((cs,0,[k0])::(Aw++(A0++[])))))) Qx;have hAc30:Acc 0 3 [(c30,0,[])] (.sl c30 0 0 0 3) []:=Acc.own (n0:=0) (z:=3) (c:=c30) (m:=0) (ls:=[]) (Nat.zero_le _) Qx Qx;refine Qb 1 K M fun _ K=>?_;refine p1 K (Q0 QJ rfl rfl (show J8 kv=some 1 from hV.len)) fun _ K=>?_;refine Qb 1 K M fun _ K=>?_;refine QC ?_;refine Qb 1 K M fun _ K=>?_;refine UJ K rfl (fun h34=>?_) fun h34=>?_
 ·have hb34:=h34;replace h34:=of_decide_eq_true h34;refine Qb 1 K M fun _ K=>?_;refine aA ((B.step M).Cf hf hV) rfl K ZZ Xg rfl rfl fun _ _ _ _ K=>?_;refine au 3 K M ?_;intro c11 _ _ K _ M;refine QT (l:=[(0,0),(1,0),(2,0),(3,0),(4,0),(5,0),(6,0),(7,0),(8,0),(9,0),(10,0),(11,0),(12,0)]) (by kernel_rfl) ?_;refine UT 7 K M fun _ K=>?_;refine q1 rfl K (Qn QK rfl rfl Q9) fun _ K=>?_;refine UT 1 K M fun _ K=>?_;refine q1 rfl K (XW Ff rfl ((Zt rfl rfl rfl).trans ((Zt rfl rfl rfl).trans ((Uw rfl hA0.cell rfl).trans rfl)))) fun _ K=>?_;refine Eo rfl K M JT Ys rfl rfl (Qa rfl (Qa rfl (Qa hA0.cell QL))) rfl rfl fun c48 _ _ K M=>?_;refine Zx (k2:=0) (L:=((c48,0,[.str nm0,iZ or0,k0])::(c11,0,[.str nm0,iZ or0,iZ YG])::(cs,0,[k0])::(Aw++(A0++[])))) (A:=[(c30,0,[])]) (B:=[]) rfl K (Mem.cast M Za) hAc30 JT rfl rfl rfl rfl Qx rfl fun ks49 A49 _ _ K hA49 M=>?_;simp only[W4]at M;refine q1 rfl K (Uu rfl) fun _ K=>Jd ?_;show W _ _ _ _ _ _ _;obtain⟨kr0,hq9⟩: ∃z,z=ks49:=⟨_,rfl⟩;subst hq9;obtain⟨Ar0,hq9⟩: ∃z,z=A49:=⟨_,rfl⟩;subst hq9;have hAr0:=hA49;replace M:=M.less (.cons _ (.refl _));replace M:=Mem.cast (M':=((c11,0,[.str nm0,iZ or0,iZ YG])::(cs,0,[k0])::(Aw++(A0++(Ar0++[]))))) M (by rfl);refine Qb 2 K M fun _ K=>?_;refine QC ?_;refine Qb 1 K M fun _ K=>?_;refine UJ K rfl (fun h34=>?_) fun h34=>?_
  ·have hb34:=h34;replace h34:=of_decide_eq_true h34
   exfalso;omega
  have hb34:=h34;replace h34:=of_decide_eq_false h34;refine QM ?_;show W _ _ _ _ _ _ _;refine Qb 3 K M ?_;replace B:=B.step M;exact⟨_,k0,A0,Ar0,rfl,B.im (A:=A0++Ar0) (.cons _ (.cons _ (by simpa [List.append_assoc]using List.sublist_append_right Aw (A0++Ar0)))),hA0,hS0,hAr0,B.qt⟩
 have hb34:=h34;replace h34:=of_decide_eq_false h34
 exfalso;omega

theorem xS(hf:Qh st){F:Fp}{dp:Nat}{a:Au}(hD:JH st F dp a)(C:Canon a)(htr0:a.tr=2)(hw0:UE a=some w)(hwl:w.length≤1000)(hwb: ∀y∈w,y≤64){nm0:List Nat}{or0 YG:Int}{nm1:List Nat}{or1 at1:Int}{kv:AV}(hV:Jg st.h.get [] 3 [[.str nm0,iZ or0,iZ YG],[.str nm1,iZ or1,iZ at1]] kv): ∃v st',QV 66 [.ptr dp 0 0,kv] st v st'∧ ∃kl k0 k1 A0 A1 Al,v=.tup [kl,.bool true]∧qm st.n st' (A0++A1++Al)∧Acc 0 1 A0 k0 (zC (UK w 0 w.length))∧W3 k0 (UK w 0 w.length)∧Acc 0 1 A1 k1 (zC (UK w 1 w.length))∧W3 k1 (UK w 1 w.length)∧Acc 0 3 Al kl [[.str nm0,iZ or0,k0],[.str nm1,iZ or1,k1]]∧Qt st st':=by
 have B:=Ql.start hf;refine Jv Tryz.func66 Tryz.ntmps66 fun T K=>?_;have M:=B.mem;refine Qb 3 K M fun _ K=>?_;obtain⟨v14,st14,ev14,⟨w',kw,hsw,rfl,nrw⟩,q14⟩:=WA M.fresh (hD.q (B.step M).qt) C (by rw[hw0];rfl);refine p1 K (Qf rfl ev14) fun _ K=>?_
 obtain rfl:w=w':=by rw[hw0]at hsw;injection hsw
 obtain⟨Aw,hAw,M⟩:=M.Yq q14 nrw;replace hAw:=hAw.z0;replace M:=Mem.cast (M':=(Aw++[])) M Qx;refine Qb 9 K M fun _ K=>?_;obtain⟨v21,st21,ev21,rfl,q21⟩:=Yg M.fresh (hD.q (B.step M).qt);refine pg K rfl rfl (Qf rfl ev21) fun _ K=>?_;replace M:=M.quiet q21;refine Qb 1 K M fun _ K=>?_;refine pg K rfl rfl (Q0 QJ rfl rfl (show J8 kv=some 2 from hV.len)) fun _ K=>?_;refine Qb 2 K M fun _ K=>?_;refine UJ K rfl (fun h25=>?_) fun h25=>?_
 ·have hb25:=h25
  replace h25: ¬(((a.tr:Nat):Int)=((2:Nat):Int)):=by first|exact of_decide_eq_false h25|exact yF h25|simpa using h25
  exfalso;omega
 have hb25:=h25
 replace h25:(((a.tr:Nat):Int)=((2:Nat):Int)):=by first|exact of_decide_eq_true h25|exact yT h25|simpa using h25
 refine Qb 2 K M fun _ K=>?_;refine p1 K (Q0 QJ rfl rfl (show J8 kv=some 2 from hV.len)) fun _ K=>?_;obtain⟨v29,st29,ev29,cs,k0,k1,A0,A1,rfl,hSg,hA0,hS0,hA1,hS1,q29⟩:=RF M.fresh (Mem.Zv (L:=[]) (B:=[]) M hAw) hwl hwb;refine p1 K (Qf rfl ev29) fun _ K=>?_;replace M:=M.Xs q29 hSg;replace hA0:=hA0.z0;replace hA1:=hA1.z0;replace M:=Mem.cast (M':=((cs,0,[k0,k1])::(Aw++(A0++(A1++[]))))) (Mem.perm M List.perm_middle) Qx;refine Qb 1 K M fun _ K=>?_;refine VO K M JT Ys rfl rfl rfl rfl rfl fun c30 _ _ K M=>?_;refine Qb 1 K M fun _ K=>?_;replace M:=Mem.cast (M':=((cs,0,[k0,k1])::(Aw++(A0++(A1++([(c30,0,[])]++[])))))) (Mem.perm M (List.perm_append_comm (α:=Nat×Nat×List AV) (l₁:=[(c30,0,[])]) (l₂:=((cs,0,[k0,k1])::(Aw++(A0++(A1++[]))))))) Qx;have hAc30:Acc 0 3 [(c30,0,[])] (.sl c30 0 0 0 3) []:=Acc.own (n0:=0) (z:=3) (c:=c30) (m:=0) (ls:=[]) (Nat.zero_le _) Qx Qx;refine Qb 1 K M fun _ K=>?_;refine p1 K (Q0 QJ rfl rfl (show J8 kv=some 2 from hV.len)) fun _ K=>?_;refine Qb 1 K M fun _ K=>?_;refine QC ?_;refine Qb 1 K M fun _ K=>?_;refine UJ K rfl (fun h34=>?_) fun h34=>?_
 ·have hb34:=h34;replace h34:=of_decide_eq_true h34;refine Qb 1 K M fun _ K=>?_;obtain⟨x36,m36,f36,q36,_,la36,lo36,lp36⟩:=((B.step M).Cf hf hV).load (i:=0) (cs:=_) rfl;refine p1 K (Qn (j:=0) ZZ (congrArg some q36) rfl Qx) fun _ K=>p1 K (Qi rfl (la36 _ Xg)) fun _ K=>?_;refine au 3 K M ?_;intro c11 _ _ K _ M;refine QT (l:=[(0,0),(1,0),(2,0),(3,0),(4,0),(5,0),(6,0),(7,0),(8,0),(9,0),(10,0),(11,0),(12,0)]) (by kernel_rfl) ?_;refine UT 7 K M fun _ K=>?_;refine q1 rfl K (Qn QK rfl rfl Q9) fun _ K=>?_;refine UT 1 K M fun _ K=>?_;refine q1 rfl K (XW Ff rfl ((Zt rfl rfl rfl).trans ((Zt rfl rfl rfl).trans ((Uw rfl hA0.cell rfl).trans rfl)))) fun _ K=>?_;refine Eo rfl K M JT Ys rfl rfl (Qa rfl (Qa rfl (Qa hA0.cell QL))) rfl rfl fun c48 _ _ K M=>?_;refine Zx (k2:=0) (L:=((c48,0,[.str nm0,iZ or0,k0])::(c11,0,[.str nm0,iZ or0,iZ YG])::(cs,0,[k0,k1])::(Aw++(A0++(A1++[]))))) (A:=[(c30,0,[])]) (B:=[]) rfl K (Mem.cast M Za) hAc30 JT rfl rfl rfl rfl Qx rfl fun ks49 A49 _ _ K hA49 M=>?_;simp only[W4]at M;refine q1 rfl K (Uu rfl) fun _ K=>Jd ?_;show W _ _ _ _ _ _ _;obtain⟨kr0,hq9⟩: ∃z,z=ks49:=⟨_,rfl⟩;subst hq9;obtain⟨Ar0,hq9⟩: ∃z,z=A49:=⟨_,rfl⟩;subst hq9;have hAr0:=hA49;replace M:=M.less (.cons _ (.refl _));replace M:=Mem.cast (M':=((c11,0,[.str nm0,iZ or0,iZ YG])::(cs,0,[k0,k1])::(Aw++(A0++(A1++(Ar0++[])))))) M (by rfl);refine Qb 2 K M fun _ K=>?_;refine QC ?_;refine Qb 1 K M fun _ K=>?_;refine UJ K rfl (fun h34=>?_) fun h34=>?_
  ·have hb34:=h34;replace h34:=of_decide_eq_true h34;refine Qb 1 K M fun _ K=>?_;obtain⟨x36,m36,f36,q36,_,la36,lo36,lp36⟩:=((B.step M).Cf hf hV).load (i:=1) (cs:=_) rfl;refine p1 K (Qn (j:=1) ZZ (congrArg some q36) rfl Qx) fun _ K=>p1 K (Qi rfl (la36 _ Xg)) fun _ K=>?_;refine au 3 K M ?_;intro c11b _ _ K _ M;refine QT (l:=[(0,0),(1,0),(2,0),(3,0),(4,0),(5,0),(6,0),(7,0),(8,0),(9,0),(10,0),(11,0),(12,0)]) (by kernel_rfl) ?_;refine UT 7 K M fun _ K=>?_;refine q1 rfl K (Qn QK rfl rfl Q9) fun _ K=>?_;refine UT 1 K M fun _ K=>?_;refine q1 rfl K (XW Ff rfl ((Zt rfl rfl rfl).trans ((Zt rfl rfl rfl).trans ((Uw rfl hA1.cell rfl).trans rfl)))) fun _ K=>?_;refine Eo rfl K M JT Ys rfl rfl (Qa rfl (Qa rfl (Qa hA1.cell QL))) rfl rfl fun c48 _ _ K M=>?_;refine Zx (k2:=0) (L:=((c48,0,[.str nm1,iZ or1,k1])::(c11b,0,[.str nm1,iZ or1,iZ at1])::(c11,0,[.str nm0,iZ or0,iZ YG])::(cs,0,[k0,k1])::(Aw++(A0++(A1++[]))))) (B:=[]) rfl K (Mem.cast M Za) hAr0 JT rfl rfl rfl rfl Qx rfl fun ks49 A49 _ _ K hA49 M=>?_;simp only[W4]at M;refine q1 rfl K (Uu rfl) fun _ K=>Jd ?_;show W _ _ _ _ _ _ _;obtain⟨kr1,hq9⟩: ∃z,z=ks49:=⟨_,rfl⟩;subst hq9;obtain⟨Ar1,hq9⟩: ∃z,z=A49:=⟨_,rfl⟩;subst hq9;have hAr1:=hA49;replace M:=M.less (.cons _ (.refl _));replace M:=Mem.cast (M':=((c11b,0,[.str nm1,iZ or1,iZ at1])::(c11,0,[.str nm0,iZ or0,iZ YG])::(cs,0,[k0,k1])::(Aw++(A0++(A1++(Ar1++[])))))) M (by rfl);refine Qb 2 K M fun _ K=>?_;refine QC ?_;refine Qb 1 K M fun _ K=>?_;refine UJ K rfl (fun h34=>?_) fun h34=>?_
   ·have hb34:=h34;replace h34:=of_decide_eq_true h34
    exfalso;omega
   have hb34:=h34;replace h34:=of_decide_eq_false h34;refine QM ?_;show W _ _ _ _ _ _ _;refine Qb 3 K M ?_;replace B:=B.step M;exact⟨_,k0,k1,A0,A1,Ar1,rfl,B.im (A:=A0++A1++Ar1) (.cons _ (.cons _ (.cons _ (by simpa [List.append_assoc]using List.sublist_append_right Aw (A0++A1++Ar1))))),hA0,hS0,hA1,hS1,hAr1,B.qt⟩
  have hb34:=h34;replace h34:=of_decide_eq_false h34
  exfalso;omega
 have hb34:=h34;replace h34:=of_decide_eq_false h34
 exfalso;omega
end Go.Proofs.YtildagdnomiahaaGreatDoor
