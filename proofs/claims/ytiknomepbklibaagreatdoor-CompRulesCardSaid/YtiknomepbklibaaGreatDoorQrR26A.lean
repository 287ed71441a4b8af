/-
  A formula's automaton by those of its kids: the program's.
-/
import Derived.Test.YtiknomepbklibaaGreatDoorQrAtn
set_option maxHeartbeats 8000000
set_option maxRecDepth 100000
set_option linter.unnecessarySimpa false
set_option linter.unusedSectionVars false
set_option linter.unusedSimpArgs false
set_option linter.unusedVariables false
section
namespace Go.Proofs.YtiknomepbklibaaGreatDoor
open Go Go.RowKit
variable {F:Fp} {R:WM} {a b g n:Int} {dp k l mp:Nat} {kc ks:AV} {ls:List (List AV)} {p:Au} {st:St} {x:Cr}

theorem Uw.aL{α:Type}{δ:α→Nat→α}{s0:α}{p:α→Bool}{l L:List α}{m:Au}(H:Uw δ s0 p l m)(hn:L.Nodup)(h: ∀(Q:α→Prop),Q s0→(∀s c,Q s→c<m.K→Q (δ s c))→ ∀s∈L,Q s):L.length≤400:=by
 have h1:=Xb hn (h (· ∈l) (List.mem_of_getElem? H.head) fun s c hs hc=>by
  obtain⟨i,hi⟩:=List.getElem?_of_mem hs
  exact List.mem_of_getElem? (H.go hi hc))
 have:=H.most;omega
def X7(st st':St)(J:Au→Prop)(v:AV):Prop:=
 (∃dp F r,v=.tup [.ptr dp 0 0,.int .i64 0]∧J r∧Ya st' F dp r∧ZT st st' F)∨(v=.tup [.nilp,.int .i64 8]∧ ∀r,¬J r)
def FW(mp:Nat):Ob:=⟨fun c=>c=mp,fun _=>True,fun _ _ _ h=>h⟩
abbrev Ka:List Nat:=[110,111,116]
abbrev Hw:List Nat:=[97,110,100]
abbrev Bx:List Nat:=[101,120]
def Ia(st st':St)(x:Cr)(k mp l:Nat)(v:AV):Prop:=
 (∃dp F m s,v=.tup [.ptr dp 0 0,.int .i64 0]∧Jo x k m s∧s≤l∧Ya st' F dp m∧ZT st st' F∧Q4 st'.h.get mp 0 [.int .i64 (l-s:Nat),.bool false])∨(v=.tup [.nilp,.int .i64 8]∧ ∀m s,Jo x k m s→l<s)
def Kt(x:Cr):Prop:= ∀(k:Nat) (R:WM) (st:St) (cs:List AV) (mp l:Nat),Qj st→YH R st.h.get→Y9 R x cs→(∀c m r,R c m r→c≠mp)→Q4 st.h.get mp 0 [.int .i64 (l:Nat),.bool false]→l≤9223372036854775807→k≤6→Jh x ((k:Nat):Int)=true→ZM x≤2000→
 ∃v st',Ev Tryz.prog Q5 54 [.agg cs,.int .i64 (k:Nat),.ptr mp 0 0] st v st'∧Ia st st' x k mp l v∧UR (fun c=>c=mp) st st'
theorem Ia.ex{st':St}{v:AV}(h:Ia st st' x k mp l v): ∃xv ev,v=.tup [xv,.int .i64 ev]∧Qu xv=true∧((ev=0∧ ∃dp F m s,xv=.ptr dp 0 0∧Jo x k m s∧s≤l∧Ya st' F dp m∧ZT st st' F∧Q4 st'.h.get mp 0 [.int .i64 (l-s:Nat),.bool false])∨(ev=8∧xv=.nilp∧ ∀m s,Jo x k m s→l<s)):=by
 rcases h with⟨dp,F,m,s,h1,h2⟩|⟨h1,h2⟩
 ·exact⟨_,_,h1,rfl,.inl ⟨rfl,dp,F,m,s,rfl,h2⟩⟩
 ·exact⟨_,_,h1,rfl,.inr ⟨rfl,rfl,h2⟩⟩
theorem Qk.jG{st0:St}{M:QP}{Os:List Ob}{j:Nat}{o p:Ob}(B:Qk st0 (fun c=>c=mp) st M Os)(hk:Os[k]? =some o)(hj:Os[j]? =some p)(hne:k≠j)(hp:p.F mp):ZT st0 st o.F:=fun c hc=>⟨(B.Ld hk c hc).resolve_right fun e=>B.J4 hk hj hne c hc (by rw[show c=mp from e];exact hp),B.Yw hk c hc⟩

theorem Sn(hf:Qj st): ∃v st',Ev Tryz.prog Q5 109 [] st v st'∧ ∃mp,v=.ptr mp 0 0∧st.n≤mp∧Q4 st'.h.get mp 0 [iZ ((401:Nat):Int),.bool false]∧Qt st st':=by
 refine JI Tryz.func109 Tryz.ntmps109 fun T K=>?_;have M:=Mem.start hf;refine Qc 1 K M ?_;intro _ K;obtain⟨v1,st1,ev1,mp,rfl,hmp,hmr,q1⟩:=SP M.fresh 401;refine p1 K (Qh rfl ev1) fun _ K=>?_;replace M:=M.quiet q1;refine Qc 1 K M ?_;exact⟨mp,rfl,hmp,hmr,M.qt⟩

theorem Rt(hf:Qj st)(hkc:Qu kc=true)(hks:Jk st.h.get [] 1 [[.ptr dp 0 0]] ks)(hD:Ya st F dp p): ∃v st',Ev Tryz.prog Q5 80 [.agg [.str Ka,iZ a,iZ b,iZ g,iZ n,kc],iN k,ks] st v st'∧X7 st st' (fun r=>r=p.neg) v∧Qt st st':=by
 have B:=Qk.start hf;refine JI Tryz.func80 Tryz.ntmps80 fun T K=>?_;have M:=B.mem;refine au 5 K M ?_;intro c3 _ _ K _ M;refine p1 K (Jm (b:=[110,111,116]) rfl rfl) fun _ K=>?_;refine Qc 1 K M ?_;intro _ K;refine JS K rfl (fun h10=>?_) fun h10=>?_
 ·refine Qc 1 K M ?_;intro _ K;obtain⟨x13,m13,f13,q13,_,la13,lo13,lp13⟩:=((B.step M).Be hf hks).load (i:=0) (cs:=_) rfl;refine p1 K (Qb (j:=0) Z5 (congrArg some q13) rfl QA) fun _ K=>p1 K (Qd rfl (lo13 _ 0 _ UE rfl)) fun _ K=>?_;replace B:=B.step M;have hle0:=B.le;obtain⟨v15,st15,ev15,dp2,F2,rfl,hD2,nf2,q15⟩:=zu B.fresh (hD.q B.qt);refine p1 K (Qh rfl ev15) fun _ K=>?_;replace B:=B.quiet q15;have M:=B.mem;refine Qc 4 K M ?_;exact⟨.inl ⟨dp2,F2,_,rfl,rfl,hD2,fun c hc=>⟨Nat.le_trans hle0 (nf2 c hc).1,(nf2 c hc).2⟩⟩,(B.step M).qt⟩
 exfalso;exact h10 rfl

theorem Ru(hf:Qj st){F':Fp}{dq:Nat}{q:Au}(hkc:Qu kc=true)(hks:Jk st.h.get [] 1 [[.ptr dp 0 0],[.ptr dq 0 0]] ks)(hD:Ya st F dp p)(hE:Ya st F' dq q)(ht:q.tr=p.tr): ∃v st',Ev Tryz.prog Q5 80 [.agg [.str Hw,iZ a,iZ b,iZ g,iZ n,kc],iN k,ks] st v st'∧X7 st st' (fun r=> ∃lp,E5 p q 8 lp r) v∧Qt st st':=by
 have B:=Qk.start hf;refine JI Tryz.func80 Tryz.ntmps80 fun T K=>?_;have M:=B.mem;refine au 5 K M ?_;intro c3 _ _ K _ M;refine p1 K (Jm (b:=[110,111,116]) rfl rfl) fun _ K=>?_;refine Qc 1 K M ?_;intro _ K;refine JS K rfl (fun h10=>?_) fun h10=>?_
 ·exfalso;simp at h10
 refine QD<|Qv<|p1 K (Jm (b:=[97,110,100]) rfl rfl) fun _ K=>?_;refine Qc 1 K M ?_;intro _ K;refine JS K rfl (fun h18=>?_) fun h18=>?_
 ·refine QD ?_;refine QF (l:=[(6,0),(0,0),(1,0),(2,1),(3,0),(4,0),(5,1),(7,0),(8,0),(9,0),(10,0),(11,0)]) (by kernel_rfl) ?_;have Mq:=M;have Bq:=B;replace B:=B.step M;obtain⟨v26,st26,ev26,mp,rfl,hmp,hmr,q26⟩:=Sn B.fresh;refine qA rfl K (Qh rfl ev26) fun _ K=>?_;replace B:=B.new (o:=UZ mp 401 false) q26 hmr (fun c hc=>by rw[show c=mp from hc];exact⟨hmp,hmr.lt q26.fresh⟩);have hmpn:=(B.jP (k:=0) rfl mp rfl).1;have M:=B.mem;have Mp:=Mq;have Mq:=M;have Bp:=Bq;have Bq:=B;refine q1 rfl K (Qg rfl) fun _ K=>?_;obtain⟨x21,m21,f21,q21,_,la21,lo21,lp21,la'21,lo'21,lp'21⟩:=Jk.Nl ((B.step M).Be hf hks) ((Bp.step Mp).Be hf hks) (i:=0) (cs:=_) rfl;refine q1 rfl K (Qb (j:=0) Z5 (congrArg some q21) rfl QA) fun _ K=>?_;refine Jl rfl K rfl (lo21 _ 0 _ UE rfl) (lo'21 _ 0 _ UE rfl) (JU rfl) rfl QE fun _ K=>?_;refine q1 rfl K (Qg rfl) fun _ K=>?_;obtain⟨x24,m24,f24,q24,_,la24,lo24,lp24,la'24,lo'24,lp'24⟩:=Jk.Nl ((B.step M).Be hf hks) ((Bp.step Mp).Be hf hks) (i:=1) (cs:=_) rfl;refine q1 rfl K (Qb (j:=1) Z5 (congrArg some q24) rfl QA) fun _ K=>?_;refine Jl rfl K rfl (lo24 _ 0 _ UE rfl) (lo'24 _ 0 _ UE rfl) (JU rfl) rfl QE fun _ K=>?_;replace B:=B.step M;have hle0:=B.le;obtain⟨v27,st27,ev27,hBP,QB⟩:=TV B.fresh (hD.q B.qt) (hE.q B.qt) ht (t:=8) QE (show Q4 _ mp 0 [iZ ((401:Nat):Int),.bool false]from B.at_ (k:=0) rfl) (fun h=>absurd (hD.hi mp h) Qe) (fun h=>absurd (hE.hi mp h) Qe) QE QE;refine qA rfl K (Qh rfl ev27) fun _ K=>?_
  obtain⟨xv,ev,rfl,hJ⟩: ∃xv ev,v27=.tup [xv,iZ ev]∧X7 st st27 (fun r=> ∃lp,E5 p q 8 lp r) (.tup [xv,iZ ev]):=by
   rcases hBP with⟨dp2,F2,lp,m,rfl,h2,h3,h4⟩|⟨rfl,lp,h2,h3,h4⟩
   ·exact⟨_,_,rfl,.inl ⟨dp2,F2,m,rfl,⟨lp,h2⟩,h3,fun c hc=>⟨Nat.le_trans hle0 (h4 c hc).1,(h4 c hc).2⟩⟩⟩
   ·refine⟨_,_,rfl,.inr ⟨rfl,fun r ⟨lq,hr⟩=>?_⟩⟩;have:=hr.1.aL h3 (fun Q h0 hs=>h4 Q h0 fun s c hq hc=>hs s c hq (by unfold Au.K;rw[hr.2];exact hc));omega
  replace B:=B.call (k:=0) (o':=FW mp) rfl QB trivial (U2 fun c hc=>Nat.lt_of_lt_of_le (B.Yw (k:=0) rfl c hc) QB.le);have M:=B.mem;have Mp:=Mq;have Mq:=M;have Bp:=Bq;have Bq:=B;refine Jc 4 K M ?_;intro _ K;refine QH ?_;show W _ _ _ _ _ _ _;refine Qc 0 K M ?_;exact⟨hJ,(B.step M).qt⟩
 exfalso;exact h18 rfl

theorem M5(hf:Qj st)(hkc:Qu kc=true)(hks:Jk st.h.get [] 1 [[.ptr dp 0 0]] ks)(hD:Ya st F dp p)(htr:p.tr=k+1): ∃v st',Ev Tryz.prog Q5 80 [.agg [.str Bx,iZ a,iZ b,iZ g,iZ n,kc],iN k,ks] st v st'∧X7 st st' (fun r=> ∃acc L,A4 p k acc∧Uw (Up p k) [0] (anyS acc) L r∧r.tr=k) v∧Qt st st':=by
 have B:=Qk.start hf;refine JI Tryz.func80 Tryz.ntmps80 fun T K=>?_;have M:=B.mem;refine au 5 K M ?_;intro c3 _ _ K _ M;refine p1 K (Jm (b:=[110,111,116]) rfl rfl) fun _ K=>?_;refine Qc 1 K M ?_;intro _ K;refine JS K rfl (fun h10=>?_) fun h10=>?_
 ·exfalso;simp at h10
 refine QD<|Qv<|p1 K (Jm (b:=[97,110,100]) rfl rfl) fun _ K=>?_;refine Qc 1 K M ?_;intro _ K;refine JS K rfl (fun h18=>?_) fun h18=>?_
 ·exfalso;simp at h18
 refine QD<|Qv<|p1 K (Jm (b:=[101,120]) rfl rfl) fun _ K=>?_;refine Qc 1 K M ?_;intro _ K;refine JS K rfl (fun h30=>?_) fun h30=>?_
 ·refine QD ?_;refine QF (l:=[(4,0),(0,0),(1,0),(2,1),(3,0),(5,0),(6,0),(7,0),(8,0),(9,0)]) (by kernel_rfl) ?_;have Mq:=M;have Bq:=B;replace B:=B.step M;obtain⟨v36,st36,ev36,mp,rfl,hmp,hmr,q36⟩:=Sn B.fresh;refine qA rfl K (Qh rfl ev36) fun _ K=>?_;replace B:=B.new (o:=UZ mp 401 false) q36 hmr (fun c hc=>by rw[show c=mp from hc];exact⟨hmp,hmr.lt q36.fresh⟩);have hmpn:=(B.jP (k:=0) rfl mp rfl).1;have M:=B.mem;have Mp:=Mq;have Mq:=M;have Bp:=Bq;have Bq:=B;refine q1 rfl K (Qg rfl) fun _ K=>?_;obtain⟨x33,m33,f33,q33,_,la33,lo33,lp33,la'33,lo'33,lp'33⟩:=Jk.Nl ((B.step M).Be hf hks) ((Bp.step Mp).Be hf hks) (i:=0) (cs:=_) rfl;refine q1 rfl K (Qb (j:=0) Z5 (congrArg some q33) rfl QA) fun _ K=>?_;refine Jl rfl K rfl (lo33 _ 0 _ UE rfl) (lo'33 _ 0 _ UE rfl) (JU rfl) rfl QE fun _ K=>?_;refine q1 rfl K (Qg rfl) fun _ K=>?_;replace B:=B.step M;have hle0:=B.le;obtain⟨v37,st37,ev37,⟨YD,hcl,hPR⟩,QB⟩:=Dh B.fresh (hD.q B.qt) (k:=k) Qe (show Q4 _ mp 0 [iZ ((401:Nat):Int),.bool false]from B.at_ (k:=0) rfl) (fun h=>absurd (hD.hi mp h) Qe) QE QE;refine qA rfl K (Qh rfl ev37) fun _ K=>?_
  obtain⟨xv,ev,rfl,hJ⟩: ∃xv ev,v37=.tup [xv,iZ ev]∧X7 st st37 (fun r=> ∃acc L,A4 p k acc∧Uw (Up p k) [0] (anyS acc) L r∧r.tr=k) (.tup [xv,iZ ev]):=by
   rcases hPR with⟨dp2,F2,L,m,rfl,h2,h3,h4,h5,_⟩|⟨rfl,L,h2,h3,h4,_⟩
   ·exact⟨_,_,rfl,.inl ⟨dp2,F2,m,rfl,⟨YD,L,hcl,h5,by omega⟩,h2,fun c hc=>⟨Nat.le_trans hle0 (h3 c hc).1,(h3 c hc).2⟩⟩⟩
   ·refine⟨_,_,rfl,.inr ⟨rfl,fun r ⟨acc2,L2,_,hr,ht⟩=>?_⟩⟩;have:=hr.aL h3 (fun Q h0 hs=>h4 Q h0 fun s c hq hc=>hs s c hq (by unfold Au.K;rw[ht];rw[show p.tr-1=k by omega]at hc;exact hc));omega
  replace B:=B.call (k:=0) (o':=FW mp) rfl QB trivial (U2 fun c hc=>Nat.lt_of_lt_of_le (B.Yw (k:=0) rfl c hc) QB.le);have M:=B.mem;have Mp:=Mq;have Mq:=M;have Bp:=Bq;have Bq:=B;refine Jc 4 K M ?_;intro _ K;refine QH ?_;show W _ _ _ _ _ _ _;refine Qc 0 K M ?_;exact⟨hJ,(B.step M).qt⟩
 exfalso;exact h30 rfl

theorem M6(hf:Qj st)(hR:YH R st.h.get){o:List Nat}{an bn gn nn:Nat}{l:List Cr}{cs:List AV}(hr:Y9 R (.mk o ((an:Nat):Int) ((bn:Nat):Int) ((gn:Nat):Int) ((nn:Nat):Int) l) cs)(hat:Wo o)(hn:nn≤20)(ha6:an≤6)(hb6:bn≤6)(hg6:gn≤6)(hk6:k≤6)(hsz:ZM (.mk o ((an:Nat):Int) ((bn:Nat):Int) ((gn:Nat):Int) ((nn:Nat):Int) l)≤2000)(hc:Jh (.mk o ((an:Nat):Int) ((bn:Nat):Int) ((gn:Nat):Int) ((nn:Nat):Int) l) ((k:Nat):Int)=true): ∃v st',Ev Tryz.prog Q5 80 [.agg cs,iN k,ks] st v st'∧X7 st st' (fun r=>JA (Xp o an bn gn nn k) r) v∧Qt st st':=by
 have hr0:=hr;obtain⟨kc,ls,rfl,hK⟩:=hr.Ym;have hln:=hK.ln;have hbn:=hK.E0
 have hne:o≠Ka∧o≠Hw∧o≠Bx:=by rcases hat with rfl|rfl|rfl|rfl|rfl|rfl|rfl|rfl|rfl|rfl|rfl<;>simp
 refine JI Tryz.func80 Tryz.ntmps80 fun T K=>?_;have M:=Mem.start hf;refine QD<|Qv ?_;refine Jv K M rfl (Qa rfl (Qa rfl (Qa rfl (Qa rfl (Qa rfl (Qa hK.cell Qz)))))) QE fun c3 _ _ K M=>?_;refine Qc 4 K M ?_;intro _ K;refine p1 K (Jm (b:=[110,111,116]) rfl rfl) fun _ K=>?_;refine Qc 1 K M ?_;intro _ K;refine JS K rfl (fun h10=>?_) fun h10=>?_
 ·exfalso;exact hne.1 h10
 refine QD<|Qv<|p1 K (Jm (b:=[97,110,100]) rfl rfl) fun _ K=>?_;refine Qc 1 K M ?_;intro _ K;refine JS K rfl (fun h18=>?_) fun h18=>?_
 ·exfalso;exact hne.2.1 h18
 refine QD<|Qv<|p1 K (Jm (b:=[101,120]) rfl rfl) fun _ K=>?_;refine Qc 1 K M ?_;intro _ K;refine JS K rfl (fun h30=>?_) fun h30=>?_
 ·exfalso;exact hne.2.2 h30
 refine Qc 2 K M ?_;intro _ K;have hle0:=M.le;obtain⟨v42,st42,ev42,dp2,F2,m,rfl,hlm,hD2,nf2,q42⟩:=wM M.fresh (M.YH hR) hr0 hat hn ha6 hb6 hg6 hk6 hsz hc;refine p1 K (Qh rfl ev42) fun _ K=>?_;replace M:=M.quiet q42;refine Qc 4 K M ?_;exact⟨.inl ⟨dp2,F2,m,rfl,hlm,hD2,fun c hc=>⟨Nat.le_trans hle0 (nf2 c hc).1,(nf2 c hc).2⟩⟩,M.qt⟩

theorem jX(hf:Qj st)(hR:YH R st.h.get)(hK:Zh R [] kc ls)(hRm: ∀c m r,R c m r→c≠mp)(hm:Q4 st.h.get mp 0 [iN l,.bool false])(hl:l≤9223372036854775807)(hk6:k≤6){o:List Nat}(hat:Wo o): ∃v st',Ev Tryz.prog Q5 79 [.agg [.str o,iZ a,iZ b,iZ g,iZ n,kc],iN k,.ptr mp 0 0] st v st'∧v=.tup [.nils,iZ 0]∧Qt st st':=by
 have hkc:=hK.cell
 have hne:o≠Bx:=by rcases hat with rfl|rfl|rfl|rfl|rfl|rfl|rfl|rfl|rfl|rfl|rfl<;>simp
 refine JI Tryz.func79 Tryz.ntmps79 fun T K=>?_;have M:=Mem.start hf;refine QD<|Qv ?_;refine Jv K M rfl (Qa rfl (Qa rfl (Qa rfl (Qa rfl (Qa rfl (Qa hK.cell Qz)))))) QE fun c3 _ _ K M=>?_;refine Qc 4 K M ?_;intro _ K;refine p1 K (Jm (b:=[101,120]) rfl rfl) fun _ K=>Uo ?_;show W _ _ _ _ _ _ _;refine JS K rfl (fun h15=>?_) fun h15=>?_
 ·exfalso;exact hne h15
 refine Qc 3 K M ?_;intro _ K;refine p1 K (Q8 JZ rfl rfl (show YB kc=some 0 from hK.len)) fun _ K=>?_;refine Qc 1 K M ?_;intro _ K;refine Jd ?_;refine Qc 1 K M ?_;intro _ K;refine JS K rfl (fun h22=>?_) fun h22=>?_
 ·exfalso;omega
 refine QW ?_;show W _ _ _ _ _ _ _;refine Qc 3 K M ?_;exact⟨rfl,M.qt⟩

theorem Rq(hf:Qj st)(hR:YH R st.h.get)(hK:Zh R [x] kc ls)(hRm: ∀c m r,R c m r→c≠mp)(hm:Q4 st.h.get mp 0 [iN l,.bool false])(hl:l≤9223372036854775807)(hk6:k≤6)(hx:Kt x)(hszx:ZM x≤2000)(hk5:k≤6)(hcx_:Jh x ((k:Nat):Int)=true): ∃v st',Ev Tryz.prog Q5 79 [.agg [.str Ka,iZ a,iZ b,iZ g,iZ n,kc],iN k,.ptr mp 0 0] st v st'∧((∃ks dp F m s,v=.tup [ks,iZ 0]∧Qu ks=true∧Jk st'.h.get [] 1 [[.ptr dp 0 0]] ks∧Ya st' F dp m∧ZT st st' F∧Jo x k m s∧s≤l∧Q4 st'.h.get mp 0 [iZ (l-s:Nat),.bool false])∨(v=.tup [.nils,iZ 8]∧ ∀m s,Jo x k m s→l<s))∧UR (fun c=>c=mp) st st':=by
 have hkc:=hK.cell;have B:=Qk.UM (o:=UZ mp l false) hf hm (fun c hc=>(show c=mp from hc)▸hm.lt hf);refine JI Tryz.func79 Tryz.ntmps79 fun T K=>?_;have M:=B.mem;refine QD<|Qv ?_;refine Jv K M rfl (Qa rfl (Qa rfl (Qa rfl (Qa rfl (Qa rfl (Qa hK.cell Qz)))))) QE fun c3 _ _ K M=>?_;refine Qc 4 K M ?_;intro _ K;refine p1 K (Jm (b:=[101,120]) rfl rfl) fun _ K=>Uo ?_;show W _ _ _ _ _ _ _;refine JS K rfl (fun h15=>?_) fun h15=>?_
 ·exfalso;simp at h15
 refine Qc 3 K M ?_;intro _ K;refine p1 K (Q8 JZ rfl rfl (show YB kc=some 1 from hK.len)) fun _ K=>?_;refine Qc 1 K M ?_;intro _ K;refine Jd ?_;refine Qc 1 K M ?_;intro _ K;refine Qq (K.QJ rfl) (fun h22=>?_) (fun h22=>?_)
 ·have hb22:=h22;replace h22:=of_decide_eq_true h22;refine Qc 0 K M ?_;intro _ K;obtain⟨_,hc23,hn23⟩:=hK.get (i:=0) (k:=x) rfl;have hp23:=hn23;obtain⟨o23,a23,b23,g23,n23,l23,kc23,ls23,hxe23,rfl,hK23⟩:=hp23.yE;obtain⟨x23,m23,f23,q23,_,la23,lo23,lp23⟩:=(hK.r (fun c m r hr=>(B.step M).Y3 hf (hR c m r hr) (hRm c m r hr))).load (i:=0) (cs:=_) hc23;refine p1 K (Qb (j:=0) JD (congrArg some q23) rfl (by rw[hK.ln];simp)) fun _ K=>p1 K (Qd rfl (la23 _ QX)) fun _ K=>?_;refine au 1 K M ?_;intro c10 _ _ K _ M;refine QS (k:=0) K M rfl rfl rfl ZL rfl (Qa rfl (Qa rfl (Qa rfl (Qa rfl (Qa rfl (Qa hK23.cell Qz)))))) rfl fun _ M=>?_;refine Qc 3 K M ?_;intro _ K;replace B:=B.step M;have B0:=B;obtain⟨v29,st29,ev29,hco1,QB⟩:=hx k R _ _ mp l B.fresh (fun c m r hr=>B.Y3 hf (hR c m r hr) (hRm c m r hr)) hn23 hRm (show Q4 _ mp 0 [iN l,.bool false]from B.at_ (k:=0) rfl) Qe Qe hcx_ hszx;refine p1 K (Qh rfl ev29) fun _ K=>?_;obtain⟨xv1,ev1,rfl,hxc1,hd1⟩:=hco1.ex;replace B:=B.call (k:=0) (o':=FW mp) rfl QB trivial (U2 fun c hc=>Nat.lt_of_lt_of_le (B.Yw (k:=0) rfl c hc) QB.le);have M:=B.mem;refine Qc 7 K M ?_;intro _ K;refine Qq (K.QJ rfl) (fun h33=>?_) (fun h33=>?_)
  ·have hb33:=h33
   replace h33: ¬(ev1=0):=by first|exact of_decide_eq_false h33|exact yF h33|simpa using h33
   refine Qc 3 K M ?_;obtain⟨rfl,rfl,hno⟩:=hd1.resolve_left (fun h=>h33 h.1);exact⟨.inr ⟨rfl,hno⟩,(B.step M).JO⟩
  have hb33:=h33
  replace h33:(ev1=0):=by first|exact of_decide_eq_true h33|exact yT h33|simpa using h33
  refine Xr ?_;show W _ _ _ _ _ _ _;obtain⟨rfl,dp1,F1,m1,s1,rfl,hA1,hl1,hD1,nf1,hm1⟩:=hd1.resolve_right (fun h=>by have:=h.1;omega);replace B:=(B.step M).view (k:=0) (o':=UZ mp (l-s1) false) rfl hm1 (fun c hc=>hc);replace B:=B0.YJ (k:=0) (o:=AW F1 dp1 m1) (om':=UZ mp (l-s1) false) rfl rfl (B.Zz QA) hD1.at_ nf1;have M:=B.mem;refine au 3 K M ?_;intro c37 _ _ K _ M;refine Jg (k2:=0) (L:=[(c37,0,[.ptr dp1 0 0]),(c10,0,[.str o23,iZ a23,iZ b23,iZ g23,iZ n23,kc23]),(c3,0,[.str Ka,iZ a,iZ b,iZ g,iZ n,kc])]) (A:=[]) (B:=[]) K M .none YA rfl rfl rfl rfl QA rfl fun ks38 A38 _ _ K hA38 M=>?_;refine Qc 3 K M ?_;intro _ K;refine Jd ?_;refine Qc 1 K M ?_;intro _ K;refine Qq (K.QJ rfl) (fun h22=>?_) (fun h22=>?_)
  ·have hb22:=h22;replace h22:=of_decide_eq_true h22
   exfalso;omega
  have hb22:=h22;replace h22:=of_decide_eq_false h22;refine QW ?_;show W _ _ _ _ _ _ _;refine Qc 3 K M ?_;exact⟨.inl ⟨_,dp1,F1,m1,s1,rfl,hA38.cell,(Mem.Yl (L:=[(c37,0,[.ptr dp1 0 0]),(c10,0,[.str o23,iZ a23,iZ b23,iZ g23,iZ n23,kc23]),(c3,0,[.str Ka,iZ a,iZ b,iZ g,iZ n,kc])]) (A:=A38) (B:=[]) M hA38),(B.step M).Tl (k:=0) rfl,(B.step M).jG (k:=0) (j:=1) rfl rfl QE rfl,hA1,hl1,(B.step M).at_ (k:=1) rfl⟩,(B.step M).JO⟩
 have hb22:=h22;replace h22:=of_decide_eq_false h22
 exfalso;omega

theorem M1(hf:Qj st)(hR:YH R st.h.get)(hK:Zh R [x] kc ls)(hRm: ∀c m r,R c m r→c≠mp)(hm:Q4 st.h.get mp 0 [iN l,.bool false])(hl:l≤9223372036854775807)(hk6:k≤6)(hx:Kt x)(hszx:ZM x≤2000)(hk5:(k+1)≤6)(hcx_:Jh x (((k+1):Nat):Int)=true): ∃v st',Ev Tryz.prog Q5 79 [.agg [.str Bx,iZ a,iZ b,iZ g,iZ n,kc],iN k,.ptr mp 0 0] st v st'∧((∃ks dp F m s,v=.tup [ks,iZ 0]∧Qu ks=true∧Jk st'.h.get [] 1 [[.ptr dp 0 0]] ks∧Ya st' F dp m∧ZT st st' F∧Jo x (k+1) m s∧s≤l∧Q4 st'.h.get mp 0 [iZ (l-s:Nat),.bool false])∨(v=.tup [.nils,iZ 8]∧ ∀m s,Jo x (k+1) m s→l<s))∧UR (fun c=>c=mp) st st':=by
 have hkc:=hK.cell;have B:=Qk.UM (o:=UZ mp l false) hf hm (fun c hc=>(show c=mp from hc)▸hm.lt hf);refine JI Tryz.func79 Tryz.ntmps79 fun T K=>?_;have M:=B.mem;refine QD<|Qv ?_;refine Jv K M rfl (Qa rfl (Qa rfl (Qa rfl (Qa rfl (Qa rfl (Qa hK.cell Qz)))))) QE fun c3 _ _ K M=>?_;refine Qc 4 K M ?_;intro _ K;refine p1 K (Jm (b:=[101,120]) rfl rfl) fun _ K=>Uo ?_;show W _ _ _ _ _ _ _;refine JS K rfl (fun h15=>?_) fun h15=>?_
 ·refine Qc 6 K M ?_;intro _ K;refine p1 K (Q8 JZ rfl rfl (show YB kc=some 1 from hK.len)) fun _ K=>?_;refine Qc 1 K M ?_;intro _ K;refine Jd ?_;refine Qc 1 K M ?_;intro _ K;refine Qq (K.QJ rfl) (fun h22=>?_) (fun h22=>?_)
  ·have hb22:=h22;replace h22:=of_decide_eq_true h22;refine Qc 0 K M ?_;intro _ K;obtain⟨_,hc23,hn23⟩:=hK.get (i:=0) (k:=x) rfl;have hp23:=hn23;obtain⟨o23,a23,b23,g23,n23,l23,kc23,ls23,hxe23,rfl,hK23⟩:=hp23.yE;obtain⟨x23,m23,f23,q23,_,la23,lo23,lp23⟩:=(hK.r (fun c m r hr=>(B.step M).Y3 hf (hR c m r hr) (hRm c m r hr))).load (i:=0) (cs:=_) hc23;refine p1 K (Qb (j:=0) JD (congrArg some q23) rfl (by rw[hK.ln];simp)) fun _ K=>p1 K (Qd rfl (la23 _ QX)) fun _ K=>?_;refine au 1 K M ?_;intro c10 _ _ K _ M;refine QS (k:=0) K M rfl rfl rfl ZL rfl (Qa rfl (Qa rfl (Qa rfl (Qa rfl (Qa rfl (Qa hK23.cell Qz)))))) rfl fun _ M=>?_;refine Qc 3 K M ?_;intro _ K;replace B:=B.step M;have B0:=B;obtain⟨v29,st29,ev29,hco1,QB⟩:=hx (k+1) R _ _ mp l B.fresh (fun c m r hr=>B.Y3 hf (hR c m r hr) (hRm c m r hr)) hn23 hRm (show Q4 _ mp 0 [iN l,.bool false]from B.at_ (k:=0) rfl) Qe Qe hcx_ hszx;refine p1 K (Qh rfl ev29) fun _ K=>?_;obtain⟨xv1,ev1,rfl,hxc1,hd1⟩:=hco1.ex;replace B:=B.call (k:=0) (o':=FW mp) rfl QB trivial (U2 fun c hc=>Nat.lt_of_lt_of_le (B.Yw (k:=0) rfl c hc) QB.le);have M:=B.mem;refine Qc 7 K M ?_;intro _ K;refine Qq (K.QJ rfl) (fun h33=>?_) (fun h33=>?_)
   ·have hb33:=h33
    replace h33: ¬(ev1=0):=by first|exact of_decide_eq_false h33|exact yF h33|simpa using h33
    refine Qc 3 K M ?_;obtain⟨rfl,rfl,hno⟩:=hd1.resolve_left (fun h=>h33 h.1);exact⟨.inr ⟨rfl,hno⟩,(B.step M).JO⟩
   have hb33:=h33
   replace h33:(ev1=0):=by first|exact of_decide_eq_true h33|exact yT h33|simpa using h33
   refine Xr ?_;show W _ _ _ _ _ _ _;obtain⟨rfl,dp1,F1,m1,s1,rfl,hA1,hl1,hD1,nf1,hm1⟩:=hd1.resolve_right (fun h=>by have:=h.1;omega);replace B:=(B.step M).view (k:=0) (o':=UZ mp (l-s1) false) rfl hm1 (fun c hc=>hc);replace B:=B0.YJ (k:=0) (o:=AW F1 dp1 m1) (om':=UZ mp (l-s1) false) rfl rfl (B.Zz QA) hD1.at_ nf1;have M:=B.mem;refine au 3 K M ?_;intro c37 _ _ K _ M;refine Jg (k2:=0) (L:=[(c37,0,[.ptr dp1 0 0]),(c10,0,[.str o23,iZ a23,iZ b23,iZ g23,iZ n23,kc23]),(c3,0,[.str Bx,iZ a,iZ b,iZ g,iZ n,kc])]) (A:=[]) (B:=[]) K M .none YA rfl rfl rfl rfl QA rfl fun ks38 A38 _ _ K hA38 M=>?_;refine Qc 3 K M ?_;intro _ K;refine Jd ?_;refine Qc 1 K M ?_;intro _ K;refine Qq (K.QJ rfl) (fun h22=>?_) (fun h22=>?_)
   ·have hb22:=h22;replace h22:=of_decide_eq_true h22
    exfalso;omega
   have hb22:=h22;replace h22:=of_decide_eq_false h22;refine QW ?_;show W _ _ _ _ _ _ _;refine Qc 3 K M ?_;exact⟨.inl ⟨_,dp1,F1,m1,s1,rfl,hA38.cell,(Mem.Yl (L:=[(c37,0,[.ptr dp1 0 0]),(c10,0,[.str o23,iZ a23,iZ b23,iZ g23,iZ n23,kc23]),(c3,0,[.str Bx,iZ a,iZ b,iZ g,iZ n,kc])]) (A:=A38) (B:=[]) M hA38),(B.step M).Tl (k:=0) rfl,(B.step M).jG (k:=0) (j:=1) rfl rfl QE rfl,hA1,hl1,(B.step M).at_ (k:=1) rfl⟩,(B.step M).JO⟩
  have hb22:=h22;replace h22:=of_decide_eq_false h22
  exfalso;omega
 exfalso;exact h15 rfl

theorem Rr(hf:Qj st)(hR:YH R st.h.get){y:Cr}(hK:Zh R [x,y] kc ls)(hRm: ∀c m r,R c m r→c≠mp)(hm:Q4 st.h.get mp 0 [iN l,.bool false])(hl:l≤9223372036854775807)(hk6:k≤6)(hx:Kt x)(hszx:ZM x≤2000)(hy:Kt y)(hszy:ZM y≤2000)(hcx_:Jh x ((k:Nat):Int)=true)(hcy_:Jh y ((k:Nat):Int)=true): ∃v st',Ev Tryz.prog Q5 79 [.agg [.str Hw,iZ a,iZ b,iZ g,iZ n,kc],iN k,.ptr mp 0 0] st v st'∧((∃ks dp F m s dq F' m' t,v=.tup [ks,iZ 0]∧Qu ks=true∧Jk st'.h.get [] 1 [[.ptr dp 0 0],[.ptr dq 0 0]] ks∧Ya st' F dp m∧Ya st' F' dq m'∧Jo x k m s∧Jo y k m' t∧s+t≤l∧Q4 st'.h.get mp 0 [iZ (l-s-t:Nat),.bool false])∨(v=.tup [.nils,iZ 8]∧ ∀m s m' t,Jo x k m s→Jo y k m' t→l<s+t))∧UR (fun c=>c=mp) st st':=by
 have hkc:=hK.cell;have B:=Qk.UM (o:=UZ mp l false) hf hm (fun c hc=>(show c=mp from hc)▸hm.lt hf);refine JI Tryz.func79 Tryz.ntmps79 fun T K=>?_;have M:=B.mem;refine QD<|Qv ?_;refine Jv K M rfl (Qa rfl (Qa rfl (Qa rfl (Qa rfl (Qa rfl (Qa hK.cell Qz)))))) QE fun c3 _ _ K M=>?_;refine Qc 4 K M ?_;intro _ K;refine p1 K (Jm (b:=[101,120]) rfl rfl) fun _ K=>Uo ?_;show W _ _ _ _ _ _ _;refine JS K rfl (fun h15=>?_) fun h15=>?_
 ·exfalso;simp at h15
 refine Qc 3 K M ?_;intro _ K;refine p1 K (Q8 JZ rfl rfl (show YB kc=some 2 from hK.len)) fun _ K=>?_;refine Qc 1 K M ?_;intro _ K;refine Jd ?_;refine Qc 1 K M ?_;intro _ K;refine Qq (K.QJ rfl) (fun h22=>?_) (fun h22=>?_)
 ·have hb22:=h22;replace h22:=of_decide_eq_true h22;refine Qc 0 K M ?_;intro _ K;obtain⟨_,hc23,hn23⟩:=hK.get (i:=0) (k:=x) rfl;have hp23:=hn23;obtain⟨o23,a23,b23,g23,n23,l23,kc23,ls23,hxe23,rfl,hK23⟩:=hp23.yE;obtain⟨x23,m23,f23,q23,_,la23,lo23,lp23⟩:=(hK.r (fun c m r hr=>(B.step M).Y3 hf (hR c m r hr) (hRm c m r hr))).load (i:=0) (cs:=_) hc23;refine p1 K (Qb (j:=0) JD (congrArg some q23) rfl (by rw[hK.ln];simp)) fun _ K=>p1 K (Qd rfl (la23 _ QX)) fun _ K=>?_;refine au 1 K M ?_;intro c10 _ _ K _ M;refine QS (k:=0) K M rfl rfl rfl ZL rfl (Qa rfl (Qa rfl (Qa rfl (Qa rfl (Qa rfl (Qa hK23.cell Qz)))))) rfl fun _ M=>?_;refine Qc 3 K M ?_;intro _ K;replace B:=B.step M;have B0:=B;obtain⟨v29,st29,ev29,hco1,QB⟩:=hx k R _ _ mp l B.fresh (fun c m r hr=>B.Y3 hf (hR c m r hr) (hRm c m r hr)) hn23 hRm (show Q4 _ mp 0 [iN l,.bool false]from B.at_ (k:=0) rfl) Qe Qe hcx_ hszx;refine p1 K (Qh rfl ev29) fun _ K=>?_;obtain⟨xv1,ev1,rfl,hxc1,hd1⟩:=hco1.ex;replace B:=B.call (k:=0) (o':=FW mp) rfl QB trivial (U2 fun c hc=>Nat.lt_of_lt_of_le (B.Yw (k:=0) rfl c hc) QB.le);have M:=B.mem;refine Qc 7 K M ?_;intro _ K;refine Qq (K.QJ rfl) (fun h33=>?_) (fun h33=>?_)
  ·have hb33:=h33
   replace h33: ¬(ev1=0):=by first|exact of_decide_eq_false h33|exact yF h33|simpa using h33
   refine Qc 3 K M ?_;obtain⟨rfl,rfl,hno⟩:=hd1.resolve_left (fun h=>h33 h.1);exact⟨.inr ⟨rfl,fun m s m' t h1 h2=>by have:=hno m s h1;omega⟩,(B.step M).JO⟩
  have hb33:=h33
  replace h33:(ev1=0):=by first|exact of_decide_eq_true h33|exact yT h33|simpa using h33
  refine Xr ?_;show W _ _ _ _ _ _ _;obtain⟨rfl,dp1,F1,m1,s1,rfl,hA1,hl1,hD1,nf1,hm1⟩:=hd1.resolve_right (fun h=>by have:=h.1;omega);replace B:=(B.step M).view (k:=0) (o':=UZ mp (l-s1) false) rfl hm1 (fun c hc=>hc);replace B:=B0.YJ (k:=0) (o:=AW F1 dp1 m1) (om':=UZ mp (l-s1) false) rfl rfl (B.Zz QA) hD1.at_ nf1;have M:=B.mem;refine au 3 K M ?_;intro c37 _ _ K _ M;refine Jg (k2:=0) (L:=[(c37,0,[.ptr dp1 0 0]),(c10,0,[.str o23,iZ a23,iZ b23,iZ g23,iZ n23,kc23]),(c3,0,[.str Hw,iZ a,iZ b,iZ g,iZ n,kc])]) (A:=[]) (B:=[]) K M .none YA rfl rfl rfl rfl QA rfl fun ks38 A38 _ _ K hA38 M=>?_;refine Qc 3 K M ?_;intro _ K;refine Jd ?_;refine Qc 1 K M ?_;intro _ K;refine Qq (K.QJ rfl) (fun h22=>?_) (fun h22=>?_)
  ·have hb22:=h22;replace h22:=of_decide_eq_true h22;refine Qc 0 K M ?_;intro _ K;replace M:=M.less (.cons _ (.cons _ (.cons_cons _ (.refl _))));obtain⟨_,hc23,hn23⟩:=hK.get (i:=1) (k:=y) rfl;have hp23:=hn23;obtain⟨o23,a23,b23,g23,n23,l23,kc23,ls23,hxe23,rfl,hK23⟩:=hp23.yE;obtain⟨x23,m23,f23,q23,_,la23,lo23,lp23⟩:=(hK.r (fun c m r hr=>(B.step M).Y3 hf (hR c m r hr) (hRm c m r hr))).load (i:=1) (cs:=_) hc23;refine p1 K (Qb (j:=1) JD (congrArg some q23) rfl (by rw[hK.ln];simp)) fun _ K=>p1 K (Qd rfl (la23 _ QX)) fun _ K=>?_;refine au 1 K M ?_;intro c10 _ _ K _ M;refine QS (k:=0) K M rfl rfl rfl ZL rfl (Qa rfl (Qa rfl (Qa rfl (Qa rfl (Qa rfl (Qa hK23.cell Qz)))))) rfl fun _ M=>?_;refine Qc 3 K M ?_;intro _ K;replace B:=B.step M;have B0:=B;obtain⟨v29,st29,ev29,hco2,QB⟩:=hy k R _ _ mp (l-s1) B.fresh (fun c m r hr=>B.Y3 hf (hR c m r hr) (hRm c m r hr)) hn23 hRm (show Q4 _ mp 0 [iZ (l-s1:Nat),.bool false]from B.at_ (k:=1) rfl) Qe Qe hcy_ hszy;refine p1 K (Qh rfl ev29) fun _ K=>?_;obtain⟨xv2,ev2,rfl,hxc2,hd2⟩:=hco2.ex;replace B:=B.call (k:=1) (o':=FW mp) rfl QB trivial (U2 fun c hc=>Nat.lt_of_lt_of_le (B.Yw (k:=1) rfl c hc) QB.le);have M:=B.mem;refine Qc 7 K M ?_;intro _ K;refine Qq (K.QJ rfl) (fun h33=>?_) (fun h33=>?_)
   ·have hb33:=h33
    replace h33: ¬(ev2=0):=by first|exact of_decide_eq_false h33|exact yF h33|simpa using h33
    refine Qc 3 K M ?_;obtain⟨rfl,rfl,hno⟩:=hd2.resolve_left (fun h=>h33 h.1);exact⟨.inr ⟨rfl,fun m s m' t h1 h2=>by have:=hno m' t h2;obtain⟨_,rfl⟩:=h1.uniq hA1;omega⟩,(B.step M).JO⟩
   have hb33:=h33
   replace h33:(ev2=0):=by first|exact of_decide_eq_true h33|exact yT h33|simpa using h33
   refine Xr ?_;show W _ _ _ _ _ _ _;obtain⟨rfl,dp2,F2,m2,s2,rfl,hA2,hl2,hD2,nf2,hm2⟩:=hd2.resolve_right (fun h=>by have:=h.1;omega);replace B:=(B.step M).view (k:=1) (o':=UZ mp ((l-s1)-s2) false) rfl hm2 (fun c hc=>hc);replace B:=B0.YJ (k:=1) (o:=AW F2 dp2 m2) (om':=UZ mp ((l-s1)-s2) false) rfl rfl (B.Zz QA) hD2.at_ nf2;have M:=B.mem;refine au 3 K M ?_;intro c37 _ _ K _ M;refine Jg (k2:=0) (L:=[(c37,0,[.ptr dp2 0 0]),(c10,0,[.str o23,iZ a23,iZ b23,iZ g23,iZ n23,kc23]),(c3,0,[.str Hw,iZ a,iZ b,iZ g,iZ n,kc])]) (A:=A38) (B:=[]) K M hA38 YA rfl rfl rfl rfl QA rfl fun ks38 A38 _ _ K hA38 M=>?_;refine Qc 3 K M ?_;intro _ K;refine Jd ?_;refine Qc 1 K M ?_;intro _ K;refine Qq (K.QJ rfl) (fun h22=>?_) (fun h22=>?_)
   ·have hb22:=h22;replace h22:=of_decide_eq_true h22
    exfalso;omega
   have hb22:=h22;replace h22:=of_decide_eq_false h22;refine QW ?_;show W _ _ _ _ _ _ _;refine Qc 3 K M ?_;exact⟨.inl ⟨_,dp1,F1,m1,s1,dp2,F2,m2,s2,rfl,hA38.cell,(Mem.Yl (L:=[(c37,0,[.ptr dp2 0 0]),(c10,0,[.str o23,iZ a23,iZ b23,iZ g23,iZ n23,kc23]),(c3,0,[.str Hw,iZ a,iZ b,iZ g,iZ n,kc])]) (A:=A38) (B:=[]) M hA38),(B.step M).Tl (k:=1) rfl,(B.step M).Tl (k:=0) rfl,hA1,hA2,by omega,(B.step M).at_ (k:=2) rfl⟩,(B.step M).JO⟩
  have hb22:=h22;replace h22:=of_decide_eq_false h22
  exfalso;omega
 have hb22:=h22;replace h22:=of_decide_eq_false h22
 exfalso;omega
end Go.Proofs.YtiknomepbklibaaGreatDoor
end
section
namespace Go.Proofs.YtiknomepbklibaaGreatDoor
open Go Go.RowKit
variable {R:WM} {a b g n:Int} {cs:List AV} {k lf mp:Nat} {l:List Cr} {o:List Nat} {st:St}

def yB(st':St)(x:Cr)(cs:List AV)(k mp l:Nat)(v:AV):Prop:=
 (∃ks s,∃J:Au→Prop,v=.tup [ks,.int .i64 0]∧Qu ks=true∧s≤l∧Q4 st'.h.get mp 0 [.int .i64 (l-s:Nat),.bool false]∧(∀r m,J r→JA r m→Jo x k m (s+m.n))∧(∀m t,Jo x k m t→ ∃r,J r)∧
  ∃v2 st2,Ev Tryz.prog Q5 80 [.agg cs,.int .i64 (k:Nat),ks] st' v2 st2∧X7 st' st2 J v2∧Qt st' st2)∨(v=.tup [.nils,.int .i64 8]∧ ∀m t,Jo x k m t→l<t)
theorem yB.ex{st':St}{x:Cr}{l:Nat}{v:AV}(h:yB st' x cs k mp l v): ∃ks ev,v=.tup [ks,.int .i64 ev]∧Qu ks=true∧((ev=0∧ ∃s,∃J:Au→Prop,s≤l∧Q4 st'.h.get mp 0 [.int .i64 (l-s:Nat),.bool false]∧(∀r m,J r→JA r m→Jo x k m (s+m.n))∧(∀m t,Jo x k m t→ ∃r,J r)∧
  ∃v2 st2,Ev Tryz.prog Q5 80 [.agg cs,.int .i64 (k:Nat),ks] st' v2 st2∧X7 st' st2 J v2∧Qt st' st2)∨(ev=8∧ ∀m t,Jo x k m t→l<t)):=by
 rcases h with⟨ks,s,J,h1,h2,h3⟩|⟨h1,h2⟩
 ·exact⟨_,_,h1,h2,.inl ⟨rfl,s,J,h3⟩⟩
 ·exact⟨_,_,h1,rfl,.inr ⟨rfl,h2⟩⟩
theorem X7.ex{st':St}{J:Au→Prop}{v:AV}(h:X7 st st' J v): ∃xv ev,v=.tup [xv,.int .i64 ev]∧Qu xv=true∧((ev=0∧ ∃dp F r,xv=.ptr dp 0 0∧J r∧Ya st' F dp r∧ZT st st' F)∨(ev=8∧xv=.nilp∧ ∀r,¬J r)):=by
 rcases h with⟨dp,F,r,h1,h2⟩|⟨h1,h2⟩
 ·exact⟨_,_,h1,rfl,.inl ⟨rfl,dp,F,r,rfl,h2⟩⟩
 ·exact⟨_,_,h1,rfl,.inr ⟨rfl,rfl,h2⟩⟩
theorem VA{m:Int}(h:Jh (.mk o a b g n l) m=true):(Wo o∧l=[])∨(o=Ka∧ ∃x,l=[x]∧Jh x m=true)∨(o=Hw∧ ∃x y,l=[x,y]∧Jh x m=true∧Jh y m=true)∨(o=Bx∧ ∃x,l=[x]∧m<6∧Jh x (m+1)=true):=by
 rw[Jh]at h;simp only[Bool.and_eq_true,decide_eq_true_eq]at h;obtain⟨h1,h2,h3,h4⟩:=h
 by_cases e1:o=Ka
 ·subst e1
  have hl:l.length=1:=by rw[show(Uh Ka).2.1=1 by decide]at h2;omega
  obtain⟨x,rfl⟩:=List.length_eq_one_iff.1 hl;rw[if_neg QE]at h4;simp only[Bool.and_eq_true,ZQ]at h4;exact .inr (.inl ⟨rfl,x,rfl,h4.2.2.2.1⟩)
 by_cases e2:o=Hw
 ·subst e2
  have hl:l.length=2:=by rw[show(Uh Hw).2.1=2 by decide]at h2;omega
  obtain⟨x,y,rfl⟩: ∃x y,l=[x,y]:=by
   match l,hl with
   |[x,y],_=>exact⟨x,y,rfl⟩
  rw[if_neg QE]at h4;simp only[Bool.and_eq_true,ZQ]at h4;exact .inr (.inr (.inl ⟨rfl,x,y,rfl,h4.2.2.2.1,h4.2.2.2.2.1⟩))
 by_cases e3:o=Bx
 ·subst e3
  have hl:l.length=1:=by rw[show(Uh Bx).2.1=1 by decide]at h2;omega
  obtain⟨x,rfl⟩:=List.length_eq_one_iff.1 hl;rw[if_pos rfl]at h4;simp only[Bool.and_eq_true,decide_eq_true_eq,ZQ]at h4;exact .inr (.inr (.inr ⟨rfl,x,rfl,h4.2.1,h4.2.2.2.2.1⟩))
 have hat:Wo o:=by
  refine Classical.byContradiction fun hn=>?_;unfold Wo at hn;simp only[not_or]at hn;obtain⟨n1,n2,n3,n4,n5,n6,n7,n8,n9,n10,n11⟩:=hn;unfold Uh at h1;rw[if_neg (Ne.symm n1),if_neg (Ne.symm n2),if_neg (Ne.symm n7),if_neg (Ne.symm n8),if_neg (Ne.symm n3),if_neg (Ne.symm n9),if_neg (Ne.symm n10),if_neg (Ne.symm n11),if_neg (Ne.symm n4),if_neg (Ne.symm n5),if_neg (Ne.symm n6),if_neg (Ne.symm e1),if_neg (Ne.symm e2),if_neg (Ne.symm e3)]at h1;cases h1
 have hl:(Uh o).2.1=0:=by rcases hat with rfl|rfl|rfl|rfl|rfl|rfl|rfl|rfl|rfl|rfl|rfl<;>decide
 exact .inl ⟨hat,List.eq_nil_of_length_eq_zero Qe⟩
theorem jW(hf:Qj st)(hR:YH R st.h.get){kc:AV}(hr:Y9 R (.mk o a b g n l) [.str o,.int .i64 a,.int .i64 b,.int .i64 g,.int .i64 n,kc])(ih: ∀y∈l,Kt y)(hRm: ∀c m r,R c m r→c≠mp)(hm:Q4 st.h.get mp 0 [.int .i64 (lf:Nat),.bool false])(hl:lf≤9223372036854775807)(hk6:k≤6)(hc:Jh (.mk o a b g n l) ((k:Nat):Int)=true)(hsz:ZM (.mk o a b g n l)≤2000):
  ∃v st',Ev Tryz.prog Q5 79 [.agg [.str o,.int .i64 a,.int .i64 b,.int .i64 g,.int .i64 n,kc],.int .i64 (k:Nat),.ptr mp 0 0] st v st'∧yB st' (.mk o a b g n l) [.str o,.int .i64 a,.int .i64 b,.int .i64 g,.int .i64 n,kc] k mp lf v∧UR (fun c=>c=mp) st st':=by
 obtain⟨l',ls,hle,hK⟩:=hr.shape
 injection hle with _ _ _ _ _ hle
 subst hle;rw[ZM]at hsz;have hkc:=hK.cell
 have hin: ∀st',UR (fun c=>c=mp) st st'→YH R st'.h.get:=fun st' Q c m r h=>by
  obtain⟨ro,e,vs,ms,h2,h3⟩:=hR c m r h;exact⟨ro,e,vs,ms,by rw[Q.J8 c (Nat.lt_of_not_le fun hle=>by rw[hf c hle]at h2;cases h2) (hRm c m r h)];exact h2,h3⟩
 rcases VA hc with⟨hat,rfl⟩|⟨rfl,x,rfl,hcx⟩|⟨rfl,x,y,rfl,hcx,hcy⟩|⟨rfl,x,rfl,hk5,hcx⟩
 ·obtain⟨v,st',h1,h2,q⟩:=jX hf hR hK hRm hm hl hk6 (a:=a) (b:=b) (g:=g) (n:=n) hat;have hc0:=hc;obtain⟨_,an,bn,gn,nn,rfl,rfl,rfl,rfl,b1,b2,b3,b4⟩:=Kl hat hc Qe;have Q:UR (fun c=>c=mp) st st':=⟨q.fresh,q.le,fun c hc _=>q.J8 c hc⟩
  have hne:o≠[110,111,116]∧o≠[97,110,100]∧o≠[101,120]:=by rcases hat with rfl|rfl|rfl|rfl|rfl|rfl|rfl|rfl|rfl|rfl|rfl<;>simp
  obtain⟨v2,st2,j1,j2,j3⟩:=M6 q.fresh (hin _ Q) hr hat b4 b1 b2 b3 hk6 (by rw[ZM];exact hsz) hc0 (ks:=.nils);refine⟨v,st',h1,.inl ⟨.nils,0,_,h2,rfl,Nat.zero_le _,?_,fun r m hJ hlm=>?_,fun m t hA=>?_,v2,st2,j1,j2,j3⟩,Q⟩
  ·exact hm.frame (q.J8 mp (hm.lt hf))
  ·rw[Nat.zero_add];exact .atom hne.1 hne.2.1 hne.2.2 (hlm.trans hJ.like hJ.tr.symm)
  ·cases hA with
   |atom _ _ _ h=>exact⟨m,h⟩
 ·obtain⟨v,st',h1,h2,Q⟩:=Rq hf hR hK hRm hm hl hk6 (ih x QA) (by rw[UJ,UJ]at hsz;omega) hk6 hcx (a:=a) (b:=b) (g:=g) (n:=n);refine⟨v,st',h1,?_,Q⟩;rcases h2 with⟨ks,dp,F,m,s,rfl,a1,a2,a3,a4,a5,a6,a7⟩|⟨rfl,hno⟩
  ·obtain⟨v2,st2,j1,j2,j3⟩:=Rt Q.fresh hkc a2 a3 (a:=a) (b:=b) (g:=g) (n:=n) (k:=k);exact .inl ⟨ks,s,fun r=>r=m.neg,rfl,a1,a6,a7,fun r m' hJ hlm=>by subst hJ;exact .not rfl a5 hlm,fun m' t hA=>⟨_,rfl⟩,v2,st2,j1,j2,j3⟩
  ·refine .inr ⟨rfl,fun m t hA=>?_⟩
   cases hA with
   |not ho hx h=>have:=hno _ _ hx;omega
   |ex ho=>cases ho
 ·obtain⟨v,st',h1,h2,Q⟩:=Rr hf hR hK hRm hm hl hk6 (ih x QA) (by rw[UJ,UJ,UJ]at hsz;omega) (ih y QA) (by rw[UJ,UJ,UJ]at hsz;omega) hcx hcy (a:=a) (b:=b) (g:=g) (n:=n);refine⟨v,st',h1,?_,Q⟩;rcases h2 with⟨ks,dp,F,m,s,dq,F',m',t,rfl,a1,a2,a3,a4,a5,a6,a7,a8⟩|⟨rfl,hno⟩
  ·obtain⟨v2,st2,j1,j2,j3⟩:=Ru Q.fresh hkc a2 a3 a4 (a6.tr.trans a5.tr.symm) (a:=a) (b:=b) (g:=g) (n:=n) (k:=k);refine .inl ⟨ks,s+t,_,rfl,a1,a7,by rw[show lf-(s+t)=lf-s-t by omega];exact a8,fun r m' hJ hlm=>?_,fun m' t hA=>?_,v2,st2,j1,j2,j3⟩
   ·obtain⟨lp,hJ⟩:=hJ;exact .and rfl a5 a6 hJ hlm
   ·cases hA with
    |and _ hx hy hb h=>
     obtain⟨rfl,_⟩:=a5.uniq hx;obtain⟨rfl,_⟩:=a6.uniq hy;exact⟨_,_,hb⟩
  ·refine .inr ⟨rfl,fun m t hA=>?_⟩
   cases hA with
   |and ho hx hy hb h=>have:=hno _ _ _ _ hx hy;omega
 ·obtain⟨v,st',h1,h2,Q⟩:=M1 hf hR hK hRm hm hl hk6 (ih x QA) (by rw[UJ,UJ]at hsz;omega) Qe hcx (a:=a) (b:=b) (g:=g) (n:=n);refine⟨v,st',h1,?_,Q⟩;rcases h2 with⟨ks,dp,F,m,s,rfl,a1,a2,a3,a4,a5,a6,a7⟩|⟨rfl,hno⟩
  ·obtain⟨v2,st2,j1,j2,j3⟩:=M5 Q.fresh hkc a2 a3 a5.tr (a:=a) (b:=b) (g:=g) (n:=n) (k:=k);refine .inl ⟨ks,s,_,rfl,a1,a6,a7,fun r m' hJ hlm=>?_,fun m' t hA=>?_,v2,st2,j1,j2,j3⟩
   ·obtain⟨acc,L,b1,b2,b3⟩:=hJ;exact .ex rfl a5 b1 b2 b3 hlm
   ·cases hA with
    |not ho=>cases ho
    |ex _ hx hc hm ht h=>
     obtain⟨rfl,_⟩:=a5.uniq hx;exact⟨_,_,_,hc,hm,ht⟩
  ·refine .inr ⟨rfl,fun m t hA=>?_⟩
   cases hA with
   |not ho=>cases ho
   |ex ho hx hc hm ht h=>have:=hno _ _ hx;omega

theorem RE(hf:Qj st)(hR:YH R st.h.get)(hr:Y9 R (.mk o a b g n l) cs)(ih: ∀y∈l,Kt y)(hRm: ∀c m r,R c m r→c≠mp)(hm:Q4 st.h.get mp 0 [iN lf,.bool false])(hl:lf≤9223372036854775807)(hk6:k≤6)(hc:Jh (.mk o a b g n l) ((k:Nat):Int)=true)(hsz:ZM (.mk o a b g n l)≤2000): ∃v st',Ev Tryz.prog Q5 54 [.agg cs,iN k,.ptr mp 0 0] st v st'∧Ia st st' (.mk o a b g n l) k mp lf v∧UR (fun c=>c=mp) st st':=by
 have hr0:=hr;obtain⟨kc,ls,rfl,hK⟩:=hr.Ym;have hln:=hK.ln;have hbn:=hK.E0;have B:=Qk.UM (o:=UZ mp lf false) hf hm (fun c hc=>(show c=mp from hc)▸hm.lt hf);refine JI Tryz.func54 Tryz.ntmps54 fun T K=>?_;have M:=B.mem;refine QD<|Qv ?_;refine Jv K M rfl (Qa rfl (Qa rfl (Qa rfl (Qa rfl (Qa rfl (Qa hK.cell Qz)))))) QE fun c3 _ _ K M=>?_;refine Qc 5 K M ?_;intro _ K;replace B:=B.step M;obtain⟨v15,st15,ev15,hko,QB⟩:=jW B.fresh (fun c m r hr=>B.Y3 hf (hR c m r hr) (hRm c m r hr)) hr0 ih hRm (show Q4 _ mp 0 [iN lf,.bool false]from B.at_ (k:=0) rfl) hl hk6 hc hsz;refine p1 K (Qh rfl ev15) fun _ K=>?_;obtain⟨ks,ev,rfl,hksc,hd⟩:=hko.ex;replace B:=B.call (k:=0) (o':=FW mp) rfl QB trivial (U2 fun c hc=>Nat.lt_of_lt_of_le (B.Yw (k:=0) rfl c hc) QB.le);have M:=B.mem;refine Qc 7 K M ?_;intro _ K;refine Qq (K.QJ rfl) (fun h19=>?_) (fun h19=>?_)
 ·have hb19:=h19
  replace h19: ¬(ev=0):=by first|exact of_decide_eq_false h19|exact yF h19|simpa using h19
  refine Qc 3 K M ?_;obtain⟨rfl,hno⟩:=hd.resolve_left (fun h=>h19 h.1);exact⟨.inr ⟨rfl,hno⟩,(B.step M).JO⟩
 have hb19:=h19
 replace h19:(ev=0):=by first|exact of_decide_eq_true h19|exact yT h19|simpa using h19
 refine Qc 0 K M ?_;intro _ K;obtain⟨rfl,sk,J,hsl,hmr,hJ1,hJ2,hjo⟩:=hd.resolve_right (fun h=>by have:=h.1;omega);replace B:=(B.step M).view (k:=0) (o':=UZ mp (lf-sk) false) rfl hmr (fun c hc=>hc);have M:=B.mem;refine Qc 3 K M ?_;intro _ K;obtain⟨v25,st25,ev25,hJo,q25⟩:=hjo;refine p1 K (Qh rfl ev25) fun _ K=>?_;obtain⟨xv,ev2,rfl,hxc,hdj⟩:=hJo.ex;replace B:=(B.step M).quiet q25;have M:=B.mem;refine Qc 7 K M ?_;intro _ K;refine Qq (K.QJ rfl) (fun h29=>?_) (fun h29=>?_)
 ·have hb29:=h29
  replace h29: ¬(ev2=0):=by first|exact of_decide_eq_false h29|exact yF h29|simpa using h29
  refine Qc 3 K M ?_;obtain⟨rfl,rfl,hno⟩:=hdj.resolve_left (fun h=>h29 h.1);exact⟨.inr ⟨rfl,fun m t hA=>by obtain⟨r,hr⟩:=hJ2 m t hA;exact absurd hr (hno r)⟩,(B.step M).JO⟩
 have hb29:=h29
 replace h29:(ev2=0):=by first|exact of_decide_eq_true h29|exact yT h29|simpa using h29
 refine Qc 0 K M ?_;intro _ K;obtain⟨rfl,dp1,F1,r,rfl,hJr,hD1,nf1⟩:=hdj.resolve_right (fun h=>by have:=h.1;omega);refine Qc 1 K M ?_;intro _ K;obtain⟨v33,st33,ev33,dp2,F2,m,rfl,hlm,hD2,nf2,q33⟩:=SQ M.fresh hD1;refine p1 K (Qh rfl ev33) fun _ K=>?_;replace B:=(B.step M).new (o:=AW F2 dp2 m) q33 hD2.at_ nf2;have hmn:m.n≤400:=hlm.canon.wf.most;have M:=B.mem;refine Qc 7 K M ?_;intro _ K;refine Qq (K.QJ rfl) (fun h37=>?_) (fun h37=>?_)
 ·have hb37:=h37
  replace h37: ¬(0=0):=by first|exact of_decide_eq_false h37|exact yF h37|simpa using h37
  exfalso;omega
 have hb37:=h37
 replace h37:(0=0):=by first|exact of_decide_eq_true h37|exact yT h37|simpa using h37
 refine Qc 2 K M ?_;intro _ K;refine oQ K M (G4 M.fresh ((B.step M).Tl (k:=0) rfl)) rfl rfl fun _ _ K M=>?_;replace B:=B.step M;obtain⟨v42,st42,ev42,rfl,hm3,Q3⟩:=Gm B.fresh (show Q4 _ mp 0 [iZ (lf-sk:Nat),.bool false]from B.at_ (k:=1) rfl) Qe m.n Qe;refine p1 K (Qh rfl ev42) fun _ K=>?_;replace B:=B.call (k:=1) (o':=UZ mp (UP (lf-sk) false m.n) (Zw (lf-sk) false m.n)) rfl Q3 hm3 (U2 fun c hc=>Nat.lt_of_lt_of_le (B.Yw (k:=1) rfl c hc) Q3.le);have M:=B.mem;refine Qc 1 K M ?_;intro _ K;refine Qq (K.QJ rfl) (fun h43=>?_) (fun h43=>?_)
 ·have hb43:=h43
  replace h43:((BD (lf-sk) false m.n))=false:=by simpa using h43
  refine Qc 2 K M ?_
  have hlt:lf-sk<m.n:=by simpa [BD]using h43
  have hA:=hJ1 r m hJr hlm;exact⟨.inr ⟨rfl,fun m' t h=>by obtain⟨_,rfl⟩:=hA.uniq h;omega⟩,(B.step M).JO⟩
 have hb43:=h43
 replace h43:((BD (lf-sk) false m.n))=true:=by simpa using h43
 refine Qc 3 K M ?_
 have hle:m.n≤lf-sk:=by simpa [BD]using h43
 have hA:=hJ1 r m hJr hlm;refine⟨.inl ⟨dp2,F2,m,sk+m.n,rfl,hA,by omega,(B.step M).Tl (k:=0) rfl,(B.step M).jG (k:=0) (j:=1) rfl rfl QE rfl,?_⟩,(B.step M).JO⟩;have hrow:Q4 _ mp 0 [iZ (UP (lf-sk) false m.n:Nat),.bool (Zw (lf-sk) false m.n)]:=(B.step M).at_ (k:=1) rfl;rw[Gn,H3 hle,show lf-sk-m.n=lf-(sk+m.n) by omega]at hrow;exact hrow

theorem uQ(x:Cr):Kt x:=I9 (M:=Kt) (fun o a b g n l ih k R st cs mp lf hf hR hr hRm hm hl hk6 hc hsz=>RE hf hR hr ih hRm hm hl hk6 hc hsz) x

theorem NM(hf:Qj st)(hR:YH R st.h.get)(hr:Y9 R (.mk o a b g n l) cs)(hRm: ∀c m r,R c m r→c≠mp)(hm:Q4 st.h.get mp 0 [iN lf,.bool false])(hl:lf≤9223372036854775807)(hk6:k≤6)(hc:Jh (.mk o a b g n l) ((k:Nat):Int)=true)(hsz:ZM (.mk o a b g n l)≤2000): ∃v st',Ev Tryz.prog Q5 20 [.agg cs,iN k,.ptr mp 0 0] st v st'∧Ia st st' (.mk o a b g n l) k mp lf v∧UR (fun c=>c=mp) st st':=by
 have hr0:=hr;obtain⟨kc,ls,rfl,hK⟩:=hr.Ym;have hln:=hK.ln;have hbn:=hK.E0;have B:=Qk.UM (o:=UZ mp lf false) hf hm (fun c hc=>(show c=mp from hc)▸hm.lt hf);refine JI Tryz.func20 Tryz.ntmps20 fun T K=>?_;have M:=B.mem;refine QD<|Qv ?_;refine Jv K M rfl (Qa rfl (Qa rfl (Qa rfl (Qa rfl (Qa rfl (Qa hK.cell Qz)))))) QE fun c3 _ _ K M=>?_;refine Qc 4 K M ?_;intro _ K;refine oQ K M (Tp M.fresh (fun c m r hr=>(B.step M).Y3 hf (hR c m r hr) (hRm c m r hr)) hr0 (m:=((k:Nat):Int)) Qe Qe hsz hc) rfl rfl fun _ _ K M=>?_;refine Qc 5 K M ?_;intro _ K;replace B:=B.step M;obtain⟨v15,st15,ev15,hco,QB⟩:=uQ _ k R _ _ mp lf B.fresh (fun c m r hr=>B.Y3 hf (hR c m r hr) (hRm c m r hr)) hr0 hRm (show Q4 _ mp 0 [iN lf,.bool false]from B.at_ (k:=0) rfl) hl hk6 hc hsz;refine p1 K (Qh rfl ev15) fun _ K=>?_;obtain⟨xv,ev,rfl,hxc,hd⟩:=hco.ex;have hle0:=B.le;replace B:=B.call (k:=0) (o':=FW mp) rfl QB trivial (U2 fun c hc=>Nat.lt_of_lt_of_le (B.Yw (k:=0) rfl c hc) QB.le);have M:=B.mem;refine Qc 4 K M ?_;refine⟨?_,(B.step M).JO⟩;rcases hd with⟨rfl,dp,F,m,t,rfl,h2,h3,h4,h5,h6⟩|⟨rfl,rfl,h2⟩
 ·exact .inl ⟨dp,F,m,t,rfl,h2,h3,h4,fun c hc=>⟨Nat.le_trans hle0 (h5 c hc).1,(h5 c hc).2⟩,h6⟩
 ·exact .inr ⟨rfl,h2⟩
end Go.Proofs.YtiknomepbklibaaGreatDoor
end
section
namespace Go.Proofs.YtiknomepbklibaaGreatDoor
open Go Go.RowKit
variable {E O:Bool} {cp mp:Nat} {ka kn:AV} {m:Au} {st:St}

def Zs(h:Hp)(F:Fp)(m:Au)(ka kn:AV):Prop:= ∃ls,∀h':Hp,(∀c,F c→h' c=h c)→Jk h' [] 1 (bC m.acc) ka∧Ll h' m.nx kn ls
theorem Zs.frame{h h':Hp}{F:Fp}(e: ∀c,F c→h' c=h c)(H:Zs h F m ka kn):Zs h' F m ka kn:=by
 obtain⟨ls,H⟩:=H;exact⟨ls,fun h2 e2=>H h2 fun c hc=>(e2 c hc).trans (e c hc)⟩
def AR(F:Fp)(b:Bool)(m:Au)(ka kn:AV):Ob:=⟨F,fun h=>b=false→Zs h F m ka kn,fun _ _ e H hb=>(H hb).frame e⟩
theorem A0.eT{st':St}{v:AV}(h:A0 st st' m v)(hf:Qj st'): ∃ka kn F,v=.agg [.int .i64 (m.tr:Nat),ka,kn]∧Zs st'.h.get F m ka kn∧ZT st st' F∧Qu ka=true∧Qu kn=true:=by
 obtain⟨ka,kn,vs,A,F,h1,h2,h3,h4,h5,h6⟩:=h;refine⟨ka,kn,fun c=>F c∨ ∃m l,(c,m,l)∈A,h1,⟨vs.map fun v=>[v],fun h' e=>⟨?_,(h3.frame fun c hc=>e c (.inl hc)).r⟩⟩,fun c hc=>?_,h2.cell,h3.rd.cell⟩
 ·exact UX.rd (F:=fun _=>True) ⟨A,h2,fun c m l hm=>⟨(h6 c m l hm).1.frame (e c (.inr ⟨m,l,hm⟩)),trivial⟩⟩
 ·rcases hc with hc|⟨m,l,hm⟩
  ·exact h4 c hc
  ·exact⟨(h6 c m l hm).2.1,(h6 c m l hm).1.lt hf⟩
def HV(cp mp:Nat)(E O:Bool)(lf:Nat):Ob:=⟨fun c=>c=cp∨c=mp,fun h=>Q4 h cp 0 [.ptr mp 0 0,.bool E,.bool O]∧((E||O)=false→Q4 h mp 0 [.int .i64 (lf:Nat),.bool false]),fun _ _ e H=>⟨H.1.frame (e cp (.inl rfl)),fun h=>(H.2 h).frame (e mp (.inr rfl))⟩⟩
theorem Qk.RR{st0:St}{X0:Fp}{M:QP}{Os:List Ob}{F:Fp}{l:Nat}{o:Bool}(B:Qk st0 X0 st M Os){j k:Nat}(hj:Os[j]? =some (AR F false m ka kn))(hk:Os[k]? =some (UZ mp l o))(hne:j≠k): ∃ls,Ku st mp m ka kn ls:=by
 obtain⟨ls,H⟩:=(show Zs st.h.get F m ka kn from B.at_ hj rfl);exact⟨ls,fun h' e=>H h' fun c hc=>e c (B.Yw hj c hc) fun h=>B.J4 hj hk hne c hc h⟩
theorem jC(hf:Qj st)(hA:Jk st.h.get [] 1 (bC m.acc) ka)(hnc:Qu kn=true)(hml:m.acc.length≤1000): ∃v st',Ev Tryz.prog Q5 99 [.agg [iZ (m.tr:Nat),ka,kn]] st v st'∧ ∃ka2,v=.agg [iZ (m.tr:Nat),ka2,kn]∧Ep st st' 1 ka2 (bC m.neg.acc)∧Qt st st':=by
 have hac:=hA.cell;refine JI Tryz.func99 Tryz.ntmps99 fun T K=>?_;have M:=Mem.start hf;refine QD<|Qv ?_;refine Jv K M rfl (Qa rfl (Qa hA.cell (Qa hnc Qz))) QE fun c1 _ _ K M=>?_;refine au 4 K M ?_;intro c2 _ _ K _ M;refine p1 K (Qd rfl (M.load (k:=1) rfl (Qf Q6 rfl))) fun _ K=>p1 K (W3 VJ rfl ((AJ rfl rfl rfl).trans ((JC rfl hnc rfl).trans rfl))) fun _ K=>?_;refine au 1 K M ?_;intro c3 _ _ K _ M;refine QS (k:=0) K M rfl rfl rfl QC rfl (Qa rfl (Qa rfl (Qa hnc Qz))) rfl fun _ M=>?_;refine Qc 1 K M ?_;intro _ K;refine Je (fun mm1 T st9=> ∃(i:Nat) (k2:AV) (A:UA),mm1=m.acc.length-i∧QZ [(1,.ptr c1 0 0),(2,.ptr c2 0 0),(3,.ptr c3 0 0),(4,iN i)] T∧Mem st.h.get st.n [] st9 ((c3,0,[iZ (m.tr:Nat),k2,kn])::(c2,0,[iZ 0,.nils,.nils])::(c1,0,[iZ (m.tr:Nat),ka,kn])::(A++[]))∧i≤m.acc.length∧Acc st.n 1 A k2 (bC ((m.acc.take i).map (!·)))) (fun mm1 T st9 hI=>?_) _ _ _ ⟨0,.nils,[],rfl,(K.sub rfl),M.less (.refl _),(Nat.zero_le _),.none⟩;obtain⟨i,k2,A,rfl,K,M,hi,hA2⟩:=hI;refine Qc 3 K M ?_;intro _ K;refine p1 K (Q8 Ux rfl rfl (hA.len.trans (congrArg some (Jy _)))) fun _ K=>?_;refine Qc 1 K M ?_;intro _ K;refine JS K rfl (fun h14=>?_) fun h14=>?_
 ·refine Qc 0 K M ?_;intro _ K;refine QF (l:=[(0,0),(1,0),(2,0),(3,0),(4,0),(5,0),(6,0),(7,0),(8,0),(9,0),(10,0),(11,0)]) (by kernel_rfl) ?_;refine Jc 5 K M ?_;intro _ K;obtain⟨y22,hi22⟩:=U9 m.acc i Qe;obtain⟨x22,m22,f22,q22,_,la22,lo22,lp22⟩:=(Jk.mem M hA QA).load (i:=i) (cs:=_) (VD hi22);refine q1 rfl K (Qb (j:=i) Jx (congrArg some q22) rfl (by rw[Jy];omega)) fun _ K=>q1 rfl K (Qd rfl (lo22 _ 0 _ J0 rfl)) fun _ K=>q1 rfl K (Iq rfl) fun _ K=>?_;refine Xk rfl K M J5 XZ rfl rfl rfl rfl rfl fun c25 _ _ K M=>?_;refine GN (k2:=0) (L:=[(c25,0,[.bool (!(y22))]),(c3,0,[iZ (m.tr:Nat),k2,kn]),(c2,0,[iZ 0,.nils,.nils]),(c1,0,[iZ (m.tr:Nat),ka,kn])]) (A:=A) (B:=[]) rfl K M hA2 J5 rfl rfl rfl rfl (by rw[Jy,List.length_map,List.length_take];omega) rfl fun ks26 A26 _ _ K hA26 M=>?_;refine Jc 1 K M ?_;intro _ K;refine Zi (k:=1) rfl K M rfl rfl rfl UF (hA26.cell) rfl fun _ M=>?_;refine QH ?_;show W _ _ _ _ _ _ _;refine Qc 3 K M ?_;intro _ K;exact⟨_,Qe,i+1,ks26,A26,rfl,(K.sub rfl),M.less (.cons _ (.refl _)),Qe,(by rw[List.take_add_one,hi22,List.map_append,XS];exact hA26)⟩
 refine QW ?_;show W _ _ _ _ _ _ _;refine Qc 1 K M ?_;intro _ K;refine QS (k:=1) K M rfl rfl rfl QC rfl (Qa rfl (Qa hA2.cell (Qa hnc Qz))) rfl fun _ M=>?_;refine Qc 0 K M ?_;rw[List.take_of_length_le Qe]at hA2;exact⟨_,rfl,Mem.B5 (L:=[(c3,0,[iZ (m.tr:Nat),k2,kn]),(c2,0,[iZ (m.tr:Nat),k2,kn]),(c1,0,[iZ (m.tr:Nat),ka,kn])]) (A:=A) (B:=[]) M hA2,M.qt⟩

theorem Gw(hf:Qj st): ∃v st',Ev Tryz.prog Q5 100 [] st v st'∧ ∃mp,v=.ptr mp 0 0∧st.n≤mp∧Q4 st'.h.get mp 0 [iZ ((1099511627776:Nat):Int),.bool false]∧Qt st st':=by
 refine JI Tryz.func100 Tryz.ntmps100 fun T K=>?_;have M:=Mem.start hf;refine Qc 1 K M ?_;intro _ K;obtain⟨v1,st1,ev1,mp,rfl,hmp,hmr,q1⟩:=CV M.fresh 1099511627776;refine p1 K (Qh rfl ev1) fun _ K=>?_;have hle0:=M.le;have hmr0:=hmr;refine p1 K (U6 rfl) fun _ K=>Uo ?_;show W _ _ _ _ _ _ _;refine Jz ⟨.inr rfl,_,aQ K rfl,?_⟩;exact⟨mp,rfl,hmp,hmr,q1⟩

theorem Mw(hf:Qj st)(hr:Q4 st.h.get cp 0 [.ptr mp 0 0,.bool E,.bool O]){a:Au}(wf:Zt a){ls:List (List AV)}(hac:Qu ka=true)(hnc:Qu kn=true)(hAN:Ku st cp a ka kn ls): ∃v st',Ev Tryz.prog Q5 98 [.ptr cp 0 0,.agg [iZ (a.tr:Nat),ka,kn],iZ (((0:Nat):Int))] st v st'∧ ∃t2 ka2 kn2 E2 O2 F m,v=.agg [iZ t2,ka2,kn2]∧Qu ka2=true∧Qu kn2=true∧Q4 st'.h.get cp 0 [.ptr mp 0 0,.bool E2,.bool O2]∧ZT st st' F∧((E2||O2)=false→(E||O)=false∧JA a m∧Zs st'.h.get F m ka2 kn2∧t2=((m.tr:Nat):Int))∧UR (fun c=>c=cp) st st':=by
 have B:=Qk.Hn hf hr;refine JI Tryz.func98 Tryz.ntmps98 fun T K=>?_;have M:=B.mem;refine au 4 K M ?_;intro c4 c6 _ _ K _ M;refine Qq (K.QJ rfl) (fun h9=>?_) (fun h9=>?_)
 ·have hb9:=h9
  replace h9: ¬(((0:Nat):Int)=0):=by first|exact of_decide_eq_false h9|exact yF h9|simpa using h9
  exfalso;omega
 have hb9:=h9
 replace h9:(((0:Nat):Int)=0):=by first|exact of_decide_eq_true h9|exact yT h9|simpa using h9
 refine Qc 1 K M ?_;intro _ K;replace B:=B.step M;obtain⟨v15,st15,ev15,cl9,l9,m,hcls,htr9,hmd,nau,q15⟩:=jJ B.fresh wf (hAN _ fun c h1 h2=>B.J8 c h1 h2).1 (hAN _ fun c h1 h2=>B.J8 c h1 h2).2;refine p1 K (Qh rfl ev15) fun _ K=>?_;obtain⟨kam,km,Fm,rfl,hau,hnf,hkam,hkm⟩:=nau.eT q15.fresh;have hlm:=Gq wf hcls htr9 hmd
 have hkal:YB kam=some m.acc.length:=by obtain⟨_,H⟩:=hau;rw[(H _ fun _ _=>rfl).1.len,Jy]
 replace B:=B.new (o:=AR Fm false m kam km) q15 (fun _=>hau) hnf;have M:=B.mem;refine au 1 K M ?_;intro c7 _ _ K _ M;refine QS (k:=0) K M rfl rfl rfl QC rfl (Qa rfl (Qa hkam (Qa hkm Qz))) rfl fun _ M=>?_;refine Qc 2 K M ?_;intro _ K;refine p1 K (Q8 Ux rfl rfl hkal) fun _ K=>?_;refine Qc 1 K M ?_;intro _ K;refine JS K rfl (fun h19=>?_) fun h19=>?_
 ·refine au 5 K M ?_;intro _ _ K _ M;refine QS (k:=1) K M rfl rfl rfl QC rfl (Qa rfl (Qa hkam (Qa hkm Qz))) rfl fun _ M=>?_;refine Qc 0 K M ?_;replace B:=B.step M;refine⟨_,kam,km,E,_,Fm,m,rfl,hkam,hkm,M.UY (k:=3) rfl,fun c hc=>⟨(B.Ld (k:=0) rfl c hc).resolve_right fun e=>B.djM _ (List.mem_cons_self ..) cp 0 _ (List.mem_of_getElem? (i:=3) rfl) (e▸hc),B.Yw (k:=0) rfl c hc⟩,fun he=>?_,B.JO⟩;refine⟨?_,hlm,B.at_ (k:=0) rfl rfl,rfl⟩
  first|exact he|(simp at he)
 refine Qc 1 K M ?_;intro _ K;refine QS (k:=1) K M rfl rfl rfl QC rfl (Qa rfl (Qa hkam (Qa hkm Qz))) rfl fun _ M=>?_;refine Qc 0 K M ?_;replace B:=B.step M;refine⟨_,kam,km,E,_,Fm,m,rfl,hkam,hkm,M.UY (k:=3) rfl,fun c hc=>⟨(B.Ld (k:=0) rfl c hc).resolve_right fun e=>B.djM _ (List.mem_cons_self ..) cp 0 _ (List.mem_of_getElem? (i:=3) rfl) (e▸hc),B.Yw (k:=0) rfl c hc⟩,fun he=>?_,B.JO⟩;refine⟨?_,hlm,B.at_ (k:=0) rfl rfl,rfl⟩
 first|exact he|(simp at he)

theorem Mv(hf:Qj st)(hr:Q4 st.h.get cp 0 [.ptr mp 0 0,.bool E,.bool O]){t:Int}(hac:Qu ka=true)(hnc:Qu kn=true): ∃v st',Ev Tryz.prog Q5 98 [.ptr cp 0 0,.agg [iZ t,ka,kn],iZ (((8:Nat):Int))] st v st'∧v=.agg [iZ 0,.nils,.nils]∧Q4 st'.h.get cp 0 [.ptr mp 0 0,.bool true,.bool O]∧UR (fun c=>c=cp) st st':=by
 have B:=Qk.Hn hf hr;refine JI Tryz.func98 Tryz.ntmps98 fun T K=>?_;have M:=B.mem;refine au 4 K M ?_;intro c4 c6 _ _ K _ M;refine Qq (K.QJ rfl) (fun h9=>?_) (fun h9=>?_)
 ·have hb9:=h9
  replace h9: ¬(((8:Nat):Int)=0):=by first|exact of_decide_eq_false h9|exact yF h9|simpa using h9
  refine au 6 K M ?_;intro _ _ K _ M;refine Qc 0 K M ?_;replace B:=B.step M;exact⟨rfl,M.UY (k:=2) rfl,B.JO⟩
 have hb9:=h9
 replace h9:(((8:Nat):Int)=0):=by first|exact of_decide_eq_true h9|exact yT h9|simpa using h9
 exfalso;omega

theorem Ix(hf:Qj st){eb:Bool}{ev:Int}(hev:ev=if eb then 8 else 0)(hr:Q4 st.h.get cp 0 [.ptr mp 0 0,.bool E,.bool O]){a:Au}{t:Int}(hac:Qu ka=true)(hnc:Qu kn=true)(hok:eb=false→t=((a.tr:Nat):Int)∧Zt a∧ ∃ls,Ku st cp a ka kn ls): ∃v st',Ev Tryz.prog Q5 98 [.ptr cp 0 0,.agg [.int .i64 t,ka,kn],.int .i64 ev] st v st'∧ ∃t2 ka2 kn2 E2 O2 F m,v=.agg [.int .i64 t2,ka2,kn2]∧Qu ka2=true∧Qu kn2=true∧Q4 st'.h.get cp 0 [.ptr mp 0 0,.bool E2,.bool O2]∧ZT st st' F∧((E2||O2)=false→eb=false∧(E||O)=false∧JA a m∧Zs st'.h.get F m ka2 kn2∧t2=((m.tr:Nat):Int))∧UR (fun c=>c=cp) st st':=by
 subst hev
 cases eb with
 |false=>
  obtain⟨rfl,wf,ls,hAN⟩:=hok rfl;obtain⟨v,st',h1,t2,ka2,kn2,E2,O2,F,m,h2,h3,h4,h5,h6,h7,h8⟩:=Mw hf hr wf hac hnc hAN;exact⟨v,st',h1,t2,ka2,kn2,E2,O2,F,m,h2,h3,h4,h5,h6,fun h=>⟨rfl,h7 h⟩,h8⟩
 |true=>
  obtain⟨v,st',h1,h2,h3,h4⟩:=Mv hf hr (t:=t) hac hnc;exact⟨v,st',h1,0,.nils,.nils,true,O,Xu,a,h2,rfl,rfl,h3,fun c hc=>hc.elim,fun h=>by simp at h,h4⟩
end Go.Proofs.YtiknomepbklibaaGreatDoor
end
