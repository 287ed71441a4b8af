/-
  A formula's automaton by those of its kids: the program's.
-/
import Derived.Test.YtildagdnomiahaaGreatDoorQvAtn
namespace Go.Proofs.YtildagdnomiahaaGreatDoor
open Go Go.RowKit
set_option maxHeartbeats 8000000
set_option linter.unusedVariables false
set_option linter.unusedSimpArgs false
set_option linter.unnecessarySimpa false
set_option linter.unusedSectionVars false
set_option maxRecDepth 100000
variable {F:Fp} {R:W5} {a b g n:Int} {dp k l mp:Nat} {kc ks:AV} {ls:List (List AV)} {p:Au} {st:St} {x:Cr}

theorem U1.nh{α:Type}{δ:α→Nat→α}{s0:α}{p:α→Bool}{l L:List α}{m:Au}(H:U1 δ s0 p l m)(hn:L.Nodup)(h: ∀(Q:α→Prop),Q s0→(∀s c,Q s→c<m.K→Q (δ s c))→ ∀s∈L,Q s):L.length≤400:=by
 have h1:=XY hn (h (· ∈l) (List.mem_of_getElem? H.head) fun s c hs hc=>by
  obtain⟨i,hi⟩:=List.getElem?_of_mem hs
  exact List.mem_of_getElem? (H.go hi hc))
 have:=H.most;omega
def Xb(st st':St)(J:Au→Prop)(v:AV):Prop:=
 (∃dp F r,v=.tup [.ptr dp 0 0,.int .i64 0]∧J r∧JH st' F dp r∧Vn st st' F)∨(v=.tup [.nilp,.int .i64 8]∧ ∀r,¬J r)
def Pv(mp:Nat):Ob:=⟨fun c=>c=mp,fun _=>True,fun _ _ _ h=>h⟩
abbrev II:List Nat:=[110,111,116]
abbrev Ha:List Nat:=[97,110,100]
abbrev Bh:List Nat:=[101,120]
def HF(st st':St)(x:Cr)(k mp l:Nat)(v:AV):Prop:=
 (∃dp F m s,v=.tup [.ptr dp 0 0,.int .i64 0]∧Jl x k m s∧s≤l∧JH st' F dp m∧Vn st st' F∧Qu st'.h.get mp 0 [.int .i64 (l-s:Nat),.bool false])∨(v=.tup [.nilp,.int .i64 8]∧ ∀m s,Jl x k m s→l<s)
def Kb(x:Cr):Prop:= ∀(k:Nat) (R:W5) (st:St) (cs:List AV) (mp l:Nat),Qh st→X1 R st.h.get→Yr R x cs→(∀c m r,R c m r→c≠mp)→Qu st.h.get mp 0 [.int .i64 (l:Nat),.bool false]→l≤9223372036854775807→k≤6→Ja x ((k:Nat):Int)=true→Xx x≤2000→
 ∃v st',QV 105 [.agg cs,.int .i64 (k:Nat),.ptr mp 0 0] st v st'∧HF st st' x k mp l v∧YA (fun c=>c=mp) st st'
theorem HF.ex{st':St}{v:AV}(h:HF st st' x k mp l v): ∃xv ev,v=.tup [xv,.int .i64 ev]∧Qw xv=true∧((ev=0∧ ∃dp F m s,xv=.ptr dp 0 0∧Jl x k m s∧s≤l∧JH st' F dp m∧Vn st st' F∧Qu st'.h.get mp 0 [.int .i64 (l-s:Nat),.bool false])∨(ev=8∧xv=.nilp∧ ∀m s,Jl x k m s→l<s)):=by
 rcases h with⟨dp,F,m,s,h1,h2⟩|⟨h1,h2⟩
 ·exact⟨_,_,h1,rfl,.inl ⟨rfl,dp,F,m,s,rfl,h2⟩⟩
 ·exact⟨_,_,h1,rfl,.inr ⟨rfl,rfl,h2⟩⟩
theorem Ql.ub{st0:St}{M:QP}{Os:List Ob}{j:Nat}{o p:Ob}(B:Ql st0 (fun c=>c=mp) st M Os)(hk:Os[k]? =some o)(hj:Os[j]? =some p)(hne:k≠j)(hp:p.F mp):Vn st0 st o.F:=fun c hc=>⟨(B.Rm hk c hc).resolve_right fun e=>B.Jj hk hj hne c hc (by rw[show c=mp from e];exact hp),B.VM hk c hc⟩

theorem Su(hf:Qh st): ∃v st',QV 203 [] st v st'∧ ∃mp,v=.ptr mp 0 0∧st.n≤mp∧Qu st'.h.get mp 0 [iZ ((401:Nat):Int),.bool false]∧Qt st st':=by
 refine Jv Tryz.func203 Tryz.ntmps203 fun T K=>?_;have M:=Mem.start hf;refine Qb 1 K M fun _ K=>?_;obtain⟨v1,st1,ev1,mp,rfl,hmp,hmr,q1⟩:=vd M.fresh 401;refine p1 K (Qf rfl ev1) fun _ K=>?_;replace M:=M.quiet q1;refine Qb 1 K M ?_;exact⟨mp,rfl,hmp,hmr,M.qt⟩

theorem Rr(hf:Qh st)(hkc:Qw kc=true)(hks:Jg st.h.get [] 1 [[.ptr dp 0 0]] ks)(hD:JH st F dp p): ∃v st',QV 155 [.agg [.str II,iZ a,iZ b,iZ g,iZ n,kc],iN k,ks] st v st'∧Xb st st' (fun r=>r=p.neg) v∧Qt st st':=by
 have B:=Ql.start hf;refine Jv Tryz.func155 Tryz.ntmps155 fun T K=>?_;have M:=B.mem;refine au 5 K M ?_;intro c3 _ _ K _ M;refine p1 K (JM (b:=[110,111,116]) rfl rfl) fun _ K=>?_;refine Qb 1 K M fun _ K=>?_;refine U8 K rfl (fun h10=>?_) fun h10=>?_
 ·refine Qb 1 K M fun _ K=>?_;refine oI ((B.step M).Cf hf hks) rfl K YY Ua rfl rfl rfl fun _ _ _ _ K=>?_;replace B:=B.step M;have hle0:=B.le;obtain⟨v15,st15,ev15,dp2,F2,rfl,hD2,nf2,q15⟩:=xz B.fresh (hD.q B.qt);refine p1 K (Qf rfl ev15) fun _ K=>?_;replace B:=B.quiet q15;have M:=B.mem;refine Qb 4 K M ?_;exact⟨.inl ⟨dp2,F2,_,rfl,rfl,hD2,fun c hc=>⟨Nat.le_trans hle0 (nf2 c hc).1,(nf2 c hc).2⟩⟩,(B.step M).qt⟩
 exfalso;exact h10 rfl

theorem Rs(hf:Qh st){F':Fp}{dq:Nat}{q:Au}(hkc:Qw kc=true)(hks:Jg st.h.get [] 1 [[.ptr dp 0 0],[.ptr dq 0 0]] ks)(hD:JH st F dp p)(hE:JH st F' dq q)(ht:q.tr=p.tr): ∃v st',QV 155 [.agg [.str Ha,iZ a,iZ b,iZ g,iZ n,kc],iN k,ks] st v st'∧Xb st st' (fun r=> ∃lp,G5 p q 8 lp r) v∧Qt st st':=by
 have B:=Ql.start hf;refine Jv Tryz.func155 Tryz.ntmps155 fun T K=>?_;have M:=B.mem;refine au 5 K M ?_;intro c3 _ _ K _ M;refine p1 K (JM (b:=[110,111,116]) rfl rfl) fun _ K=>?_;refine Qb 1 K M fun _ K=>?_;refine U8 K rfl (fun h10=>?_) fun h10=>?_
 ·exfalso;simp at h10
 refine Qb 0 K M fun _ K=>?_;refine p1 K (JM (b:=[97,110,100]) rfl rfl) fun _ K=>?_;refine Qb 1 K M fun _ K=>?_;refine U8 K rfl (fun h18=>?_) fun h18=>?_
 ·refine Xc ?_;refine QT (l:=[(6,0),(0,0),(1,0),(2,1),(3,0),(4,0),(5,1),(7,0),(8,0),(9,0),(10,0),(11,0)]) (by kernel_rfl) ?_;have Mq:=M;have Bq:=B;replace B:=B.step M;obtain⟨v26,st26,ev26,mp,rfl,hmp,hmr,q26⟩:=Su B.fresh;refine qA rfl K (Qf rfl ev26) fun _ K=>?_;replace B:=B.new (o:=YH mp 401 false) q26 hmr (fun c hc=>by rw[show c=mp from hc];exact⟨hmp,hmr.lt q26.fresh⟩);have hmpn:=(B.ve (k:=0) rfl mp rfl).1;have M:=B.mem;have Mp:=Mq;have Mq:=M;have Bp:=Bq;have Bq:=B;refine q1 rfl K (Q8 rfl) fun _ K=>?_;obtain⟨x21,m21,f21,q21,_,la21,lo21,lp21,la'21,lo'21,lp'21⟩:=Jg.ur ((B.step M).Cf hf hks) ((Bp.step Mp).Cf hf hks) (i:=0) (cs:=_) rfl;refine q1 rfl K (Qn (j:=0) YY (congrArg some q21) rfl Qx) fun _ K=>?_;refine JE rfl K rfl (lo21 _ 0 _ Ua rfl) (lo'21 _ 0 _ Ua rfl) (Ul rfl) rfl Q9 fun _ K=>?_;refine q1 rfl K (Q8 rfl) fun _ K=>?_;obtain⟨x24,m24,f24,q24,_,la24,lo24,lp24,la'24,lo'24,lp'24⟩:=Jg.ur ((B.step M).Cf hf hks) ((Bp.step Mp).Cf hf hks) (i:=1) (cs:=_) rfl;refine q1 rfl K (Qn (j:=1) YY (congrArg some q24) rfl Qx) fun _ K=>?_;refine JE rfl K rfl (lo24 _ 0 _ Ua rfl) (lo'24 _ 0 _ Ua rfl) (Ul rfl) rfl Q9 fun _ K=>?_;replace B:=B.step M;have hle0:=B.le;obtain⟨v27,st27,ev27,hBP,QB⟩:=TW B.fresh (hD.q B.qt) (hE.q B.qt) ht (t:=8) Q9 (show Qu _ mp 0 [iZ ((401:Nat):Int),.bool false]from B.at_ (k:=0) rfl) (fun h=>absurd (hD.hi mp h) Qd) (fun h=>absurd (hE.hi mp h) Qd) Q9 Q9;refine qA rfl K (Qf rfl ev27) fun _ K=>?_
  obtain⟨xv,ev,rfl,hJ⟩: ∃xv ev,v27=.tup [xv,iZ ev]∧Xb st st27 (fun r=> ∃lp,G5 p q 8 lp r) (.tup [xv,iZ ev]):=by
   rcases hBP with⟨dp2,F2,lp,m,rfl,h2,h3,h4⟩|⟨rfl,lp,h2,h3,h4⟩
   ·exact⟨_,_,rfl,.inl ⟨dp2,F2,m,rfl,⟨lp,h2⟩,h3,fun c hc=>⟨Nat.le_trans hle0 (h4 c hc).1,(h4 c hc).2⟩⟩⟩
   ·refine⟨_,_,rfl,.inr ⟨rfl,fun r ⟨lq,hr⟩=>?_⟩⟩;have:=hr.1.nh h3 (fun Q h0 hs=>h4 Q h0 fun s c hq hc=>hs s c hq (by unfold Au.K;rw[hr.2];exact hc));omega
  replace B:=B.call (k:=0) (o':=Pv mp) rfl QB trivial (ZO fun c hc=>Nat.lt_of_lt_of_le (B.VM (k:=0) rfl c hc) QB.le);have M:=B.mem;have Mp:=Mq;have Mq:=M;have Bp:=Bq;have Bq:=B;refine UT 4 K M fun _ K=>?_;refine Jd ?_;show W _ _ _ _ _ _ _;refine Qb 0 K M ?_;exact⟨hJ,(B.step M).qt⟩
 exfalso;exact h18 rfl

theorem Mz(hf:Qh st)(hkc:Qw kc=true)(hks:Jg st.h.get [] 1 [[.ptr dp 0 0]] ks)(hD:JH st F dp p)(htr:p.tr=k+1): ∃v st',QV 155 [.agg [.str Bh,iZ a,iZ b,iZ g,iZ n,kc],iN k,ks] st v st'∧Xb st st' (fun r=> ∃acc L,AZ p k acc∧U1 (UM p k) [0] (anyS acc) L r∧r.tr=k) v∧Qt st st':=by
 have B:=Ql.start hf;refine Jv Tryz.func155 Tryz.ntmps155 fun T K=>?_;have M:=B.mem;refine au 5 K M ?_;intro c3 _ _ K _ M;refine p1 K (JM (b:=[110,111,116]) rfl rfl) fun _ K=>?_;refine Qb 1 K M fun _ K=>?_;refine U8 K rfl (fun h10=>?_) fun h10=>?_
 ·exfalso;simp at h10
 refine Qb 0 K M fun _ K=>?_;refine p1 K (JM (b:=[97,110,100]) rfl rfl) fun _ K=>?_;refine Qb 1 K M fun _ K=>?_;refine U8 K rfl (fun h18=>?_) fun h18=>?_
 ·exfalso;simp at h18
 refine Qb 0 K M fun _ K=>?_;refine p1 K (JM (b:=[101,120]) rfl rfl) fun _ K=>?_;refine Qb 1 K M fun _ K=>?_;refine U8 K rfl (fun h30=>?_) fun h30=>?_
 ·refine Xc ?_;refine QT (l:=[(4,0),(0,0),(1,0),(2,1),(3,0),(5,0),(6,0),(7,0),(8,0),(9,0)]) (by kernel_rfl) ?_;have Mq:=M;have Bq:=B;replace B:=B.step M;obtain⟨v36,st36,ev36,mp,rfl,hmp,hmr,q36⟩:=Su B.fresh;refine qA rfl K (Qf rfl ev36) fun _ K=>?_;replace B:=B.new (o:=YH mp 401 false) q36 hmr (fun c hc=>by rw[show c=mp from hc];exact⟨hmp,hmr.lt q36.fresh⟩);have hmpn:=(B.ve (k:=0) rfl mp rfl).1;have M:=B.mem;have Mp:=Mq;have Mq:=M;have Bp:=Bq;have Bq:=B;refine q1 rfl K (Q8 rfl) fun _ K=>?_;obtain⟨x33,m33,f33,q33,_,la33,lo33,lp33,la'33,lo'33,lp'33⟩:=Jg.ur ((B.step M).Cf hf hks) ((Bp.step Mp).Cf hf hks) (i:=0) (cs:=_) rfl;refine q1 rfl K (Qn (j:=0) YY (congrArg some q33) rfl Qx) fun _ K=>?_;refine JE rfl K rfl (lo33 _ 0 _ Ua rfl) (lo'33 _ 0 _ Ua rfl) (Ul rfl) rfl Q9 fun _ K=>?_;refine q1 rfl K (Q8 rfl) fun _ K=>?_;replace B:=B.step M;have hle0:=B.le;obtain⟨v37,st37,ev37,⟨Wy,hcl,hPR⟩,QB⟩:=Da B.fresh (hD.q B.qt) (k:=k) Qd (show Qu _ mp 0 [iZ ((401:Nat):Int),.bool false]from B.at_ (k:=0) rfl) (fun h=>absurd (hD.hi mp h) Qd) Q9 Q9;refine qA rfl K (Qf rfl ev37) fun _ K=>?_
  obtain⟨xv,ev,rfl,hJ⟩: ∃xv ev,v37=.tup [xv,iZ ev]∧Xb st st37 (fun r=> ∃acc L,AZ p k acc∧U1 (UM p k) [0] (anyS acc) L r∧r.tr=k) (.tup [xv,iZ ev]):=by
   rcases hPR with⟨dp2,F2,L,m,rfl,h2,h3,h4,h5,_⟩|⟨rfl,L,h2,h3,h4,_⟩
   ·exact⟨_,_,rfl,.inl ⟨dp2,F2,m,rfl,⟨Wy,L,hcl,h5,by omega⟩,h2,fun c hc=>⟨Nat.le_trans hle0 (h3 c hc).1,(h3 c hc).2⟩⟩⟩
   ·refine⟨_,_,rfl,.inr ⟨rfl,fun r ⟨acc2,L2,_,hr,ht⟩=>?_⟩⟩;have:=hr.nh h3 (fun Q h0 hs=>h4 Q h0 fun s c hq hc=>hs s c hq (by unfold Au.K;rw[ht];rw[show p.tr-1=k by omega]at hc;exact hc));omega
  replace B:=B.call (k:=0) (o':=Pv mp) rfl QB trivial (ZO fun c hc=>Nat.lt_of_lt_of_le (B.VM (k:=0) rfl c hc) QB.le);have M:=B.mem;have Mp:=Mq;have Mq:=M;have Bp:=Bq;have Bq:=B;refine UT 4 K M fun _ K=>?_;refine Jd ?_;show W _ _ _ _ _ _ _;refine Qb 0 K M ?_;exact⟨hJ,(B.step M).qt⟩
 exfalso;exact h30 rfl

theorem M1(hf:Qh st)(hR:X1 R st.h.get){o:List Nat}{an bn gn nn:Nat}{l:List Cr}{cs:List AV}(hr:Yr R (.mk o ((an:Nat):Int) ((bn:Nat):Int) ((gn:Nat):Int) ((nn:Nat):Int) l) cs)(hat:AG o)(hn:nn≤20)(ha6:an≤6)(hb6:bn≤6)(hg6:gn≤6)(hk6:k≤6)(hsz:Xx (.mk o ((an:Nat):Int) ((bn:Nat):Int) ((gn:Nat):Int) ((nn:Nat):Int) l)≤2000)(hc:Ja (.mk o ((an:Nat):Int) ((bn:Nat):Int) ((gn:Nat):Int) ((nn:Nat):Int) l) ((k:Nat):Int)=true): ∃v st',QV 155 [.agg cs,iN k,ks] st v st'∧Xb st st' (fun r=>Ju (Wx o an bn gn nn k) r) v∧Qt st st':=by
 have hr0:=hr;obtain⟨kc,ls,rfl,hK⟩:=hr.ZG;have hln:=hK.ln;have hbn:=hK.AW
 have hne:o≠II∧o≠Ha∧o≠Bh:=by rcases hat with rfl|rfl|rfl|rfl|rfl|rfl|rfl|rfl|rfl|rfl|rfl<;>simp
 refine Jv Tryz.func155 Tryz.ntmps155 fun T K=>?_;have M:=Mem.start hf;refine Qb 0 K M fun _ K=>?_;refine JK K M rfl (Qa rfl (Qa rfl (Qa rfl (Qa rfl (Qa rfl (Qa hK.cell QL)))))) Q9 fun c3 _ _ K M=>?_;refine Qb 4 K M fun _ K=>?_;refine p1 K (JM (b:=[110,111,116]) rfl rfl) fun _ K=>?_;refine Qb 1 K M fun _ K=>?_;refine U8 K rfl (fun h10=>?_) fun h10=>?_
 ·exfalso;exact hne.1 h10
 refine Qb 0 K M fun _ K=>?_;refine p1 K (JM (b:=[97,110,100]) rfl rfl) fun _ K=>?_;refine Qb 1 K M fun _ K=>?_;refine U8 K rfl (fun h18=>?_) fun h18=>?_
 ·exfalso;exact hne.2.1 h18
 refine Qb 0 K M fun _ K=>?_;refine p1 K (JM (b:=[101,120]) rfl rfl) fun _ K=>?_;refine Qb 1 K M fun _ K=>?_;refine U8 K rfl (fun h30=>?_) fun h30=>?_
 ·exfalso;exact hne.2.2 h30
 refine Qb 2 K M fun _ K=>?_;have hle0:=M.le;obtain⟨v42,st42,ev42,dp2,F2,m,rfl,hlm,hD2,nf2,q42⟩:=fC M.fresh (M.X1 hR) hr0 hat hn ha6 hb6 hg6 hk6 hsz hc;refine p1 K (Qf rfl ev42) fun _ K=>?_;replace M:=M.quiet q42;refine Qb 4 K M ?_;exact⟨.inl ⟨dp2,F2,m,rfl,hlm,hD2,fun c hc=>⟨Nat.le_trans hle0 (nf2 c hc).1,(nf2 c hc).2⟩⟩,M.qt⟩

theorem uC(hf:Qh st)(hR:X1 R st.h.get)(hK:Y4 R [] kc ls)(hRm: ∀c m r,R c m r→c≠mp)(hm:Qu st.h.get mp 0 [iN l,.bool false])(hl:l≤9223372036854775807)(hk6:k≤6){o:List Nat}(hat:AG o): ∃v st',QV 154 [.agg [.str o,iZ a,iZ b,iZ g,iZ n,kc],iN k,.ptr mp 0 0] st v st'∧v=.tup [.nils,iZ 0]∧Qt st st':=by
 have hkc:=hK.cell
 have hne:o≠Bh:=by rcases hat with rfl|rfl|rfl|rfl|rfl|rfl|rfl|rfl|rfl|rfl|rfl<;>simp
 refine Jv Tryz.func154 Tryz.ntmps154 fun T K=>?_;have M:=Mem.start hf;refine Qb 0 K M fun _ K=>?_;refine JK K M rfl (Qa rfl (Qa rfl (Qa rfl (Qa rfl (Qa rfl (Qa hK.cell QL)))))) Q9 fun c3 _ _ K M=>?_;refine Qb 4 K M fun _ K=>?_;refine p1 K (JM (b:=[101,120]) rfl rfl) fun _ K=>?_;refine Qb 0 K M fun _ K=>?_;refine U8 K rfl (fun h15=>?_) fun h15=>?_
 ·exfalso;exact hne h15
 refine Qb 3 K M fun _ K=>?_;refine p1 K (Q0 JI rfl rfl (show J8 kc=some 0 from hK.len)) fun _ K=>?_;refine Qb 1 K M fun _ K=>?_;refine QC ?_;refine Qb 1 K M fun _ K=>?_;refine U8 K rfl (fun h22=>?_) fun h22=>?_
 ·exfalso;omega
 refine QM ?_;show W _ _ _ _ _ _ _;refine Qb 3 K M ?_;exact⟨rfl,M.qt⟩

theorem Ro(hf:Qh st)(hR:X1 R st.h.get)(hK:Y4 R [x] kc ls)(hRm: ∀c m r,R c m r→c≠mp)(hm:Qu st.h.get mp 0 [iN l,.bool false])(hl:l≤9223372036854775807)(hk6:k≤6)(hx:Kb x)(hszx:Xx x≤2000)(hk5:k≤6)(hcx_:Ja x ((k:Nat):Int)=true): ∃v st',QV 154 [.agg [.str II,iZ a,iZ b,iZ g,iZ n,kc],iN k,.ptr mp 0 0] st v st'∧((∃ks dp F m s,v=.tup [ks,iZ 0]∧Qw ks=true∧Jg st'.h.get [] 1 [[.ptr dp 0 0]] ks∧JH st' F dp m∧Vn st st' F∧Jl x k m s∧s≤l∧Qu st'.h.get mp 0 [iZ (l-s:Nat),.bool false])∨(v=.tup [.nils,iZ 8]∧ ∀m s,Jl x k m s→l<s))∧YA (fun c=>c=mp) st st':=by
 have hkc:=hK.cell;have B:=Ql.UD (o:=YH mp l false) hf hm (fun c hc=>(show c=mp from hc)▸hm.lt hf);refine Jv Tryz.func154 Tryz.ntmps154 fun T K=>?_;have M:=B.mem;refine Qb 0 K M fun _ K=>?_;refine JK K M rfl (Qa rfl (Qa rfl (Qa rfl (Qa rfl (Qa rfl (Qa hK.cell QL)))))) Q9 fun c3 _ _ K M=>?_;refine Qb 4 K M fun _ K=>?_;refine p1 K (JM (b:=[101,120]) rfl rfl) fun _ K=>?_;refine Qb 0 K M fun _ K=>?_;refine U8 K rfl (fun h15=>?_) fun h15=>?_
 ·exfalso;simp at h15
 refine Qb 3 K M fun _ K=>?_;refine p1 K (Q0 JI rfl rfl (show J8 kc=some 1 from hK.len)) fun _ K=>?_;refine Qb 1 K M fun _ K=>?_;refine QC ?_;refine Qb 1 K M fun _ K=>?_;refine UJ K rfl (fun h22=>?_) fun h22=>?_
 ·have hb22:=h22;replace h22:=of_decide_eq_true h22;refine Qb 0 K M fun _ K=>?_;obtain⟨_,hc23,hn23⟩:=hK.get (i:=0) (k:=x) rfl;have hp23:=hn23;obtain⟨o23,a23,b23,g23,n23,l23,kc23,ls23,hxe23,rfl,hK23⟩:=hp23.er;refine aA (hK.r (fun c m r hr=>(B.step M).ZA hf (hR c m r hr) (hRm c m r hr))) hc23 K Yf Jh rfl rfl fun _ _ _ _ K=>?_;refine au 1 K M ?_;intro c10 _ _ K _ M;refine Uh (k:=0) K M rfl rfl rfl Ub rfl (Qa rfl (Qa rfl (Qa rfl (Qa rfl (Qa rfl (Qa hK23.cell QL)))))) rfl fun _ M=>?_;refine Qb 3 K M fun _ K=>?_;replace B:=B.step M;have B0:=B;obtain⟨v29,st29,ev29,hco1,QB⟩:=hx k R _ _ mp l B.fresh (fun c m r hr=>B.ZA hf (hR c m r hr) (hRm c m r hr)) hn23 hRm (show Qu _ mp 0 [iN l,.bool false]from B.at_ (k:=0) rfl) Qd Qd hcx_ hszx;refine p1 K (Qf rfl ev29) fun _ K=>?_;obtain⟨xv1,ev1,rfl,hxc1,hd1⟩:=hco1.ex;replace B:=B.call (k:=0) (o':=Pv mp) rfl QB trivial (ZO fun c hc=>Nat.lt_of_lt_of_le (B.VM (k:=0) rfl c hc) QB.le);have M:=B.mem;refine Qb 7 K M fun _ K=>?_;refine UJ K rfl (fun h33=>?_) fun h33=>?_
  ·have hb33:=h33
   replace h33: ¬(ev1=0):=by first|exact of_decide_eq_false h33|exact yF h33|simpa using h33
   refine Qb 3 K M ?_;obtain⟨rfl,rfl,hno⟩:=hd1.resolve_left (fun h=>h33 h.1);exact⟨.inr ⟨rfl,hno⟩,(B.step M).U7⟩
  have hb33:=h33
  replace h33:(ev1=0):=by first|exact of_decide_eq_true h33|exact yT h33|simpa using h33
  refine Qb 0 K M fun _ K=>?_;obtain⟨rfl,dp1,F1,m1,s1,rfl,hA1,hl1,hD1,nf1,hm1⟩:=hd1.resolve_right (fun h=>by have:=h.1;omega);replace B:=(B.step M).view (k:=0) (o':=YH mp (l-s1) false) rfl hm1 (fun c hc=>hc);replace B:=B0.ES (k:=0) (o:=EJ F1 dp1 m1) (om':=YH mp (l-s1) false) rfl rfl (B.Pc Qx) hD1.at_ nf1;have M:=B.mem;refine au 3 K M ?_;intro c37 _ _ K _ M;refine Jx (k2:=0) (L:=[(c37,0,[.ptr dp1 0 0]),(c10,0,[.str o23,iZ a23,iZ b23,iZ g23,iZ n23,kc23]),(c3,0,[.str II,iZ a,iZ b,iZ g,iZ n,kc])]) (A:=[]) (B:=[]) K M .none UW rfl rfl rfl rfl Qx rfl fun ks38 A38 _ _ K hA38 M=>?_;refine Qb 3 K M fun _ K=>?_;refine QC ?_;refine Qb 1 K M fun _ K=>?_;refine UJ K rfl (fun h22=>?_) fun h22=>?_
  ·have hb22:=h22;replace h22:=of_decide_eq_true h22
   exfalso;omega
  have hb22:=h22;replace h22:=of_decide_eq_false h22;refine QM ?_;show W _ _ _ _ _ _ _;refine Qb 3 K M ?_;exact⟨.inl ⟨_,dp1,F1,m1,s1,rfl,hA38.cell,(Mem.Zv (L:=[(c37,0,[.ptr dp1 0 0]),(c10,0,[.str o23,iZ a23,iZ b23,iZ g23,iZ n23,kc23]),(c3,0,[.str II,iZ a,iZ b,iZ g,iZ n,kc])]) (B:=[]) M hA38),(B.step M).RE (k:=0) rfl,(B.step M).ub (k:=0) (j:=1) rfl rfl Q9 rfl,hA1,hl1,(B.step M).at_ (k:=1) rfl⟩,(B.step M).U7⟩
 have hb22:=h22;replace h22:=of_decide_eq_false h22
 exfalso;omega

theorem Mw(hf:Qh st)(hR:X1 R st.h.get)(hK:Y4 R [x] kc ls)(hRm: ∀c m r,R c m r→c≠mp)(hm:Qu st.h.get mp 0 [iN l,.bool false])(hl:l≤9223372036854775807)(hk6:k≤6)(hx:Kb x)(hszx:Xx x≤2000)(hk5:(k+1)≤6)(hcx_:Ja x (((k+1):Nat):Int)=true): ∃v st',QV 154 [.agg [.str Bh,iZ a,iZ b,iZ g,iZ n,kc],iN k,.ptr mp 0 0] st v st'∧((∃ks dp F m s,v=.tup [ks,iZ 0]∧Qw ks=true∧Jg st'.h.get [] 1 [[.ptr dp 0 0]] ks∧JH st' F dp m∧Vn st st' F∧Jl x (k+1) m s∧s≤l∧Qu st'.h.get mp 0 [iZ (l-s:Nat),.bool false])∨(v=.tup [.nils,iZ 8]∧ ∀m s,Jl x (k+1) m s→l<s))∧YA (fun c=>c=mp) st st':=by
 have hkc:=hK.cell;have B:=Ql.UD (o:=YH mp l false) hf hm (fun c hc=>(show c=mp from hc)▸hm.lt hf);refine Jv Tryz.func154 Tryz.ntmps154 fun T K=>?_;have M:=B.mem;refine Qb 0 K M fun _ K=>?_;refine JK K M rfl (Qa rfl (Qa rfl (Qa rfl (Qa rfl (Qa rfl (Qa hK.cell QL)))))) Q9 fun c3 _ _ K M=>?_;refine Qb 4 K M fun _ K=>?_;refine p1 K (JM (b:=[101,120]) rfl rfl) fun _ K=>?_;refine Qb 0 K M fun _ K=>?_;refine U8 K rfl (fun h15=>?_) fun h15=>?_
 ·refine Qb 6 K M fun _ K=>?_;refine p1 K (Q0 JI rfl rfl (show J8 kc=some 1 from hK.len)) fun _ K=>?_;refine Qb 1 K M fun _ K=>?_;refine QC ?_;refine Qb 1 K M fun _ K=>?_;refine UJ K rfl (fun h22=>?_) fun h22=>?_
  ·have hb22:=h22;replace h22:=of_decide_eq_true h22;refine Qb 0 K M fun _ K=>?_;obtain⟨_,hc23,hn23⟩:=hK.get (i:=0) (k:=x) rfl;have hp23:=hn23;obtain⟨o23,a23,b23,g23,n23,l23,kc23,ls23,hxe23,rfl,hK23⟩:=hp23.er;refine aA (hK.r (fun c m r hr=>(B.step M).ZA hf (hR c m r hr) (hRm c m r hr))) hc23 K Yf Jh rfl rfl fun _ _ _ _ K=>?_;refine au 1 K M ?_;intro c10 _ _ K _ M;refine Uh (k:=0) K M rfl rfl rfl Ub rfl (Qa rfl (Qa rfl (Qa rfl (Qa rfl (Qa rfl (Qa hK23.cell QL)))))) rfl fun _ M=>?_;refine Qb 3 K M fun _ K=>?_;replace B:=B.step M;have B0:=B;obtain⟨v29,st29,ev29,hco1,QB⟩:=hx (k+1) R _ _ mp l B.fresh (fun c m r hr=>B.ZA hf (hR c m r hr) (hRm c m r hr)) hn23 hRm (show Qu _ mp 0 [iN l,.bool false]from B.at_ (k:=0) rfl) Qd Qd hcx_ hszx;refine p1 K (Qf rfl ev29) fun _ K=>?_;obtain⟨xv1,ev1,rfl,hxc1,hd1⟩:=hco1.ex;replace B:=B.call (k:=0) (o':=Pv mp) rfl QB trivial (ZO fun c hc=>Nat.lt_of_lt_of_le (B.VM (k:=0) rfl c hc) QB.le);have M:=B.mem;refine Qb 7 K M fun _ K=>?_;refine UJ K rfl (fun h33=>?_) fun h33=>?_
   ·have hb33:=h33
    replace h33: ¬(ev1=0):=by first|exact of_decide_eq_false h33|exact yF h33|simpa using h33
    refine Qb 3 K M ?_;obtain⟨rfl,rfl,hno⟩:=hd1.resolve_left (fun h=>h33 h.1);exact⟨.inr ⟨rfl,hno⟩,(B.step M).U7⟩
   have hb33:=h33
   replace h33:(ev1=0):=by first|exact of_decide_eq_true h33|exact yT h33|simpa using h33
   refine Qb 0 K M fun _ K=>?_;obtain⟨rfl,dp1,F1,m1,s1,rfl,hA1,hl1,hD1,nf1,hm1⟩:=hd1.resolve_right (fun h=>by have:=h.1;omega);replace B:=(B.step M).view (k:=0) (o':=YH mp (l-s1) false) rfl hm1 (fun c hc=>hc);replace B:=B0.ES (k:=0) (o:=EJ F1 dp1 m1) (om':=YH mp (l-s1) false) rfl rfl (B.Pc Qx) hD1.at_ nf1;have M:=B.mem;refine au 3 K M ?_;intro c37 _ _ K _ M;refine Jx (k2:=0) (L:=[(c37,0,[.ptr dp1 0 0]),(c10,0,[.str o23,iZ a23,iZ b23,iZ g23,iZ n23,kc23]),(c3,0,[.str Bh,iZ a,iZ b,iZ g,iZ n,kc])]) (A:=[]) (B:=[]) K M .none UW rfl rfl rfl rfl Qx rfl fun ks38 A38 _ _ K hA38 M=>?_;refine Qb 3 K M fun _ K=>?_;refine QC ?_;refine Qb 1 K M fun _ K=>?_;refine UJ K rfl (fun h22=>?_) fun h22=>?_
   ·have hb22:=h22;replace h22:=of_decide_eq_true h22
    exfalso;omega
   have hb22:=h22;replace h22:=of_decide_eq_false h22;refine QM ?_;show W _ _ _ _ _ _ _;refine Qb 3 K M ?_;exact⟨.inl ⟨_,dp1,F1,m1,s1,rfl,hA38.cell,(Mem.Zv (L:=[(c37,0,[.ptr dp1 0 0]),(c10,0,[.str o23,iZ a23,iZ b23,iZ g23,iZ n23,kc23]),(c3,0,[.str Bh,iZ a,iZ b,iZ g,iZ n,kc])]) (B:=[]) M hA38),(B.step M).RE (k:=0) rfl,(B.step M).ub (k:=0) (j:=1) rfl rfl Q9 rfl,hA1,hl1,(B.step M).at_ (k:=1) rfl⟩,(B.step M).U7⟩
  have hb22:=h22;replace h22:=of_decide_eq_false h22
  exfalso;omega
 exfalso;exact h15 rfl

theorem Rp(hf:Qh st)(hR:X1 R st.h.get){y:Cr}(hK:Y4 R [x,y] kc ls)(hRm: ∀c m r,R c m r→c≠mp)(hm:Qu st.h.get mp 0 [iN l,.bool false])(hl:l≤9223372036854775807)(hk6:k≤6)(hx:Kb x)(hszx:Xx x≤2000)(hy:Kb y)(hszy:Xx y≤2000)(hcx_:Ja x ((k:Nat):Int)=true)(hcy_:Ja y ((k:Nat):Int)=true): ∃v st',QV 154 [.agg [.str Ha,iZ a,iZ b,iZ g,iZ n,kc],iN k,.ptr mp 0 0] st v st'∧((∃ks dp F m s dq F' m' t,v=.tup [ks,iZ 0]∧Qw ks=true∧Jg st'.h.get [] 1 [[.ptr dp 0 0],[.ptr dq 0 0]] ks∧JH st' F dp m∧JH st' F' dq m'∧Jl x k m s∧Jl y k m' t∧s+t≤l∧Qu st'.h.get mp 0 [iZ (l-s-t:Nat),.bool false])∨(v=.tup [.nils,iZ 8]∧ ∀m s m' t,Jl x k m s→Jl y k m' t→l<s+t))∧YA (fun c=>c=mp) st st':=by
 have hkc:=hK.cell;have B:=Ql.UD (o:=YH mp l false) hf hm (fun c hc=>(show c=mp from hc)▸hm.lt hf);refine Jv Tryz.func154 Tryz.ntmps154 fun T K=>?_;have M:=B.mem;refine Qb 0 K M fun _ K=>?_;refine JK K M rfl (Qa rfl (Qa rfl (Qa rfl (Qa rfl (Qa rfl (Qa hK.cell QL)))))) Q9 fun c3 _ _ K M=>?_;refine Qb 4 K M fun _ K=>?_;refine p1 K (JM (b:=[101,120]) rfl rfl) fun _ K=>?_;refine Qb 0 K M fun _ K=>?_;refine U8 K rfl (fun h15=>?_) fun h15=>?_
 ·exfalso;simp at h15
 refine Qb 3 K M fun _ K=>?_;refine p1 K (Q0 JI rfl rfl (show J8 kc=some 2 from hK.len)) fun _ K=>?_;refine Qb 1 K M fun _ K=>?_;refine QC ?_;refine Qb 1 K M fun _ K=>?_;refine UJ K rfl (fun h22=>?_) fun h22=>?_
 ·have hb22:=h22;replace h22:=of_decide_eq_true h22;refine Qb 0 K M fun _ K=>?_;obtain⟨_,hc23,hn23⟩:=hK.get (i:=0) (k:=x) rfl;have hp23:=hn23;obtain⟨o23,a23,b23,g23,n23,l23,kc23,ls23,hxe23,rfl,hK23⟩:=hp23.er;obtain⟨x23,m23,f23,q23,_,la23,lo23,lp23⟩:=(hK.r (fun c m r hr=>(B.step M).ZA hf (hR c m r hr) (hRm c m r hr))).load (i:=0) (cs:=_) hc23;refine p1 K (Qn (j:=0) Yf (congrArg some q23) rfl (by rw[hK.ln];simp)) fun _ K=>p1 K (Qi rfl (la23 _ Jh)) fun _ K=>?_;refine au 1 K M ?_;intro c10 _ _ K _ M;refine Uh (k:=0) K M rfl rfl rfl Ub rfl (Qa rfl (Qa rfl (Qa rfl (Qa rfl (Qa rfl (Qa hK23.cell QL)))))) rfl fun _ M=>?_;refine Qb 3 K M fun _ K=>?_;replace B:=B.step M;have B0:=B;obtain⟨v29,st29,ev29,hco1,QB⟩:=hx k R _ _ mp l B.fresh (fun c m r hr=>B.ZA hf (hR c m r hr) (hRm c m r hr)) hn23 hRm (show Qu _ mp 0 [iN l,.bool false]from B.at_ (k:=0) rfl) Qd Qd hcx_ hszx;refine p1 K (Qf rfl ev29) fun _ K=>?_;obtain⟨xv1,ev1,rfl,hxc1,hd1⟩:=hco1.ex;replace B:=B.call (k:=0) (o':=Pv mp) rfl QB trivial (ZO fun c hc=>Nat.lt_of_lt_of_le (B.VM (k:=0) rfl c hc) QB.le);have M:=B.mem;refine Qb 7 K M fun _ K=>?_;refine UJ K rfl (fun h33=>?_) fun h33=>?_
  ·have hb33:=h33
   replace h33: ¬(ev1=0):=by first|exact of_decide_eq_false h33|exact yF h33|simpa using h33
   refine Qb 3 K M ?_;obtain⟨rfl,rfl,hno⟩:=hd1.resolve_left (fun h=>h33 h.1);exact⟨.inr ⟨rfl,fun m s m' t h1 h2=>by have:=hno m s h1;omega⟩,(B.step M).U7⟩
  have hb33:=h33
  replace h33:(ev1=0):=by first|exact of_decide_eq_true h33|exact yT h33|simpa using h33
  refine Qb 0 K M fun _ K=>?_;obtain⟨rfl,dp1,F1,m1,s1,rfl,hA1,hl1,hD1,nf1,hm1⟩:=hd1.resolve_right (fun h=>by have:=h.1;omega);replace B:=(B.step M).view (k:=0) (o':=YH mp (l-s1) false) rfl hm1 (fun c hc=>hc);replace B:=B0.ES (k:=0) (o:=EJ F1 dp1 m1) (om':=YH mp (l-s1) false) rfl rfl (B.Pc Qx) hD1.at_ nf1;have M:=B.mem;refine au 3 K M ?_;intro c37 _ _ K _ M;refine Jx (k2:=0) (L:=[(c37,0,[.ptr dp1 0 0]),(c10,0,[.str o23,iZ a23,iZ b23,iZ g23,iZ n23,kc23]),(c3,0,[.str Ha,iZ a,iZ b,iZ g,iZ n,kc])]) (A:=[]) (B:=[]) K M .none UW rfl rfl rfl rfl Qx rfl fun ks38 A38 _ _ K hA38 M=>?_;refine Qb 3 K M fun _ K=>?_;refine QC ?_;refine Qb 1 K M fun _ K=>?_;refine UJ K rfl (fun h22=>?_) fun h22=>?_
  ·have hb22:=h22;replace h22:=of_decide_eq_true h22;refine Qb 0 K M fun _ K=>?_;replace M:=M.less (.cons _ (.cons _ (.cons_cons _ (.refl _))));obtain⟨_,hc23,hn23⟩:=hK.get (i:=1) (k:=y) rfl;have hp23:=hn23;obtain⟨o23,a23,b23,g23,n23,l23,kc23,ls23,hxe23,rfl,hK23⟩:=hp23.er;obtain⟨x23,m23,f23,q23,_,la23,lo23,lp23⟩:=(hK.r (fun c m r hr=>(B.step M).ZA hf (hR c m r hr) (hRm c m r hr))).load (i:=1) (cs:=_) hc23;refine p1 K (Qn (j:=1) Yf (congrArg some q23) rfl (by rw[hK.ln];simp)) fun _ K=>p1 K (Qi rfl (la23 _ Jh)) fun _ K=>?_;refine au 1 K M ?_;intro c10 _ _ K _ M;refine Uh (k:=0) K M rfl rfl rfl Ub rfl (Qa rfl (Qa rfl (Qa rfl (Qa rfl (Qa rfl (Qa hK23.cell QL)))))) rfl fun _ M=>?_;refine Qb 3 K M fun _ K=>?_;replace B:=B.step M;have B0:=B;obtain⟨v29,st29,ev29,hco2,QB⟩:=hy k R _ _ mp (l-s1) B.fresh (fun c m r hr=>B.ZA hf (hR c m r hr) (hRm c m r hr)) hn23 hRm (show Qu _ mp 0 [iZ (l-s1:Nat),.bool false]from B.at_ (k:=1) rfl) Qd Qd hcy_ hszy;refine p1 K (Qf rfl ev29) fun _ K=>?_;obtain⟨xv2,ev2,rfl,hxc2,hd2⟩:=hco2.ex;replace B:=B.call (k:=1) (o':=Pv mp) rfl QB trivial (ZO fun c hc=>Nat.lt_of_lt_of_le (B.VM (k:=1) rfl c hc) QB.le);have M:=B.mem;refine Qb 7 K M fun _ K=>?_;refine UJ K rfl (fun h33=>?_) fun h33=>?_
   ·have hb33:=h33
    replace h33: ¬(ev2=0):=by first|exact of_decide_eq_false h33|exact yF h33|simpa using h33
    refine Qb 3 K M ?_;obtain⟨rfl,rfl,hno⟩:=hd2.resolve_left (fun h=>h33 h.1);exact⟨.inr ⟨rfl,fun m s m' t h1 h2=>by have:=hno m' t h2;obtain⟨_,rfl⟩:=h1.uniq hA1;omega⟩,(B.step M).U7⟩
   have hb33:=h33
   replace h33:(ev2=0):=by first|exact of_decide_eq_true h33|exact yT h33|simpa using h33
   refine Qb 0 K M fun _ K=>?_;obtain⟨rfl,dp2,F2,m2,s2,rfl,hA2,hl2,hD2,nf2,hm2⟩:=hd2.resolve_right (fun h=>by have:=h.1;omega);replace B:=(B.step M).view (k:=1) (o':=YH mp ((l-s1)-s2) false) rfl hm2 (fun c hc=>hc);replace B:=B0.ES (k:=1) (o:=EJ F2 dp2 m2) (om':=YH mp ((l-s1)-s2) false) rfl rfl (B.Pc Qx) hD2.at_ nf2;have M:=B.mem;refine au 3 K M ?_;intro c37 _ _ K _ M;refine Jx (k2:=0) (L:=[(c37,0,[.ptr dp2 0 0]),(c10,0,[.str o23,iZ a23,iZ b23,iZ g23,iZ n23,kc23]),(c3,0,[.str Ha,iZ a,iZ b,iZ g,iZ n,kc])]) (B:=[]) K M hA38 UW rfl rfl rfl rfl Qx rfl fun ks38 A38 _ _ K hA38 M=>?_;refine Qb 3 K M fun _ K=>?_;refine QC ?_;refine Qb 1 K M fun _ K=>?_;refine UJ K rfl (fun h22=>?_) fun h22=>?_
   ·have hb22:=h22;replace h22:=of_decide_eq_true h22
    exfalso;omega
   have hb22:=h22;replace h22:=of_decide_eq_false h22;refine QM ?_;show W _ _ _ _ _ _ _;refine Qb 3 K M ?_;exact⟨.inl ⟨_,dp1,F1,m1,s1,dp2,F2,m2,s2,rfl,hA38.cell,(Mem.Zv (L:=[(c37,0,[.ptr dp2 0 0]),(c10,0,[.str o23,iZ a23,iZ b23,iZ g23,iZ n23,kc23]),(c3,0,[.str Ha,iZ a,iZ b,iZ g,iZ n,kc])]) (B:=[]) M hA38),(B.step M).RE (k:=1) rfl,(B.step M).RE (k:=0) rfl,hA1,hA2,by omega,(B.step M).at_ (k:=2) rfl⟩,(B.step M).U7⟩
  have hb22:=h22;replace h22:=of_decide_eq_false h22
  exfalso;omega
 have hb22:=h22;replace h22:=of_decide_eq_false h22
 exfalso;omega
end Go.Proofs.YtildagdnomiahaaGreatDoor
