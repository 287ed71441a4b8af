/-
  A formula's automaton by those of its kids: the program's.
-/
import Derived.Test.YtiknomepbklibaaGreatDoorQsAtn
set_option maxHeartbeats 8000000
set_option maxRecDepth 100000
set_option linter.unnecessarySimpa false
set_option linter.unusedSectionVars false
set_option linter.unusedSimpArgs false
set_option linter.unusedVariables false
namespace Go.Proofs.YtiknomepbklibaaGreatDoor
open Go Go.RowKit
section
variable {F:Fp} {R:VN} {a b g n:Int} {dp k l mp:Nat} {kc ks:AV} {ls:List (List AV)} {p:Au} {st:St} {x:Cr}

theorem UA.iL{α:Type}{δ:α→Nat→α}{s0:α}{p:α→Bool}{l L:List α}{m:Au}(H:UA δ s0 p l m)(hn:L.Nodup)(h: ∀(Q:α→Prop),Q s0→(∀s c,Q s→c<m.K→Q (δ s c))→ ∀s∈L,Q s):L.length≤400:=by
 have h1:=Xa hn (h (· ∈l) (List.mem_of_getElem? H.head) fun s c hs hc=>by
  obtain⟨i,hi⟩:=List.getElem?_of_mem hs
  exact List.mem_of_getElem? (H.go hi hc))
 have:=H.most;omega
def XC(st st':St)(J:Au→Prop)(v:AV):Prop:=
 (∃dp F r,v=.tup [.ptr dp 0 0,.int .i64 0]∧J r∧UX st' F dp r∧ZP st st' F)∨(v=.tup [.nilp,.int .i64 8]∧ ∀r,¬J r)
def Hu(mp:Nat):Ob:=⟨fun c=>c=mp,fun _=>True,fun _ _ _ h=>h⟩
abbrev KB:List Nat:=[110,111,116]
abbrev HW:List Nat:=[97,110,100]
abbrev BQ:List Nat:=[101,120]
def I5(st st':St)(x:Cr)(k mp l:Nat)(v:AV):Prop:=
 (∃dp F m s,v=.tup [.ptr dp 0 0,.int .i64 0]∧Jl x k m s∧s≤l∧UX st' F dp m∧ZP st st' F∧Qx st'.h.get mp 0 [.int .i64 (l-s:Nat),.bool false])∨(v=.tup [.nilp,.int .i64 8]∧ ∀m s,Jl x k m s→l<s)
def KV(x:Cr):Prop:= ∀(k:Nat) (R:VN) (st:St) (cs:List AV) (mp l:Nat),Qi st→Yy R st.h.get→YI R x cs→(∀c m r,R c m r→c≠mp)→Qx st.h.get mp 0 [.int .i64 (l:Nat),.bool false]→l≤9223372036854775807→k≤6→QV x ((k:Nat):Int)=true→Vg x≤2000→
 ∃v st',Jf 54 [.agg cs,.int .i64 (k:Nat),.ptr mp 0 0] st v st'∧I5 st st' x k mp l v∧UQ (fun c=>c=mp) st st'
theorem I5.ex{st':St}{v:AV}(h:I5 st st' x k mp l v): ∃xv ev,v=.tup [xv,.int .i64 ev]∧Qr xv=true∧((ev=0∧ ∃dp F m s,xv=.ptr dp 0 0∧Jl x k m s∧s≤l∧UX st' F dp m∧ZP st st' F∧Qx st'.h.get mp 0 [.int .i64 (l-s:Nat),.bool false])∨(ev=8∧xv=.nilp∧ ∀m s,Jl x k m s→l<s)):=by
 rcases h with⟨dp,F,m,s,h1,h2⟩|⟨h1,h2⟩
 ·exact⟨_,_,h1,rfl,.inl ⟨rfl,dp,F,m,s,rfl,h2⟩⟩
 ·exact⟨_,_,h1,rfl,.inr ⟨rfl,rfl,h2⟩⟩
theorem Qk.uo{st0:St}{M:QM}{Os:List Ob}{j:Nat}{o p:Ob}(B:Qk st0 (fun c=>c=mp) st M Os)(hk:Os[k]? =some o)(hj:Os[j]? =some p)(hne:k≠j)(hp:p.F mp):ZP st0 st o.F:=fun c hc=>⟨(B.L7 hk c hc).resolve_right fun e=>B.J2 hk hj hne c hc (by rw[show c=mp from e];exact hp),B.Y3 hk c hc⟩

theorem SU(hf:Qi st): ∃v st',Jf 109 [] st v st'∧ ∃mp,v=.ptr mp 0 0∧st.n≤mp∧Qx st'.h.get mp 0 [iZ ((401:Nat):Int),.bool false]∧Qt st st':=by
 refine J7 Tryz.func109 Tryz.ntmps109 fun T K=>?_;have M:=Mem.start hf;refine Qb 1 K M fun _ K=>?_;obtain⟨v1,st1,ev1,mp,rfl,hmp,hmr,q1⟩:=Tq M.fresh 401;refine p1 K (Qf rfl ev1) fun _ K=>?_;replace M:=M.quiet q1;refine Qb 1 K M ?_;exact⟨mp,rfl,hmp,hmr,M.qt⟩

theorem RM(hf:Qi st)(hkc:Qr kc=true)(hks:Jg st.h.get [] 1 [[.ptr dp 0 0]] ks)(hD:UX st F dp p): ∃v st',Jf 80 [.agg [.str KB,iZ a,iZ b,iZ g,iZ n,kc],iN k,ks] st v st'∧XC st st' (fun r=>r=p.neg) v∧Qt st st':=by
 have B:=Qk.start hf;refine J7 Tryz.func80 Tryz.ntmps80 fun T K=>?_;have M:=B.mem;refine au 5 K M ?_;intro c3 _ _ K _ M;refine p1 K (QG (b:=[110,111,116]) rfl rfl) fun _ K=>?_;refine Qb 1 K M fun _ K=>?_;refine Jt K rfl (fun h10=>?_) fun h10=>?_
 ·refine Qb 1 K M fun _ K=>?_;refine oI ((B.step M).F5 hf hks) rfl K Z2 UF rfl rfl rfl fun _ _ _ _ K=>?_;replace B:=B.step M;have hle0:=B.le;obtain⟨v15,st15,ev15,dp2,F2,rfl,hD2,nf2,q15⟩:=xD B.fresh (hD.q B.qt);refine p1 K (Qf rfl ev15) fun _ K=>?_;replace B:=B.quiet q15;have M:=B.mem;refine Qb 4 K M ?_;exact⟨.inl ⟨dp2,F2,_,rfl,rfl,hD2,fun c hc=>⟨Nat.le_trans hle0 (nf2 c hc).1,(nf2 c hc).2⟩⟩,(B.step M).qt⟩
 exfalso;exact h10 rfl

theorem RN(hf:Qi st){F':Fp}{dq:Nat}{q:Au}(hkc:Qr kc=true)(hks:Jg st.h.get [] 1 [[.ptr dp 0 0],[.ptr dq 0 0]] ks)(hD:UX st F dp p)(hE:UX st F' dq q)(ht:q.tr=p.tr): ∃v st',Jf 80 [.agg [.str HW,iZ a,iZ b,iZ g,iZ n,kc],iN k,ks] st v st'∧XC st st' (fun r=> ∃lp,I6 p q 8 lp r) v∧Qt st st':=by
 have B:=Qk.start hf;refine J7 Tryz.func80 Tryz.ntmps80 fun T K=>?_;have M:=B.mem;refine au 5 K M ?_;intro c3 _ _ K _ M;refine p1 K (QG (b:=[110,111,116]) rfl rfl) fun _ K=>?_;refine Qb 1 K M fun _ K=>?_;refine Jt K rfl (fun h10=>?_) fun h10=>?_
 ·exfalso;simp at h10
 refine Qb 0 K M fun _ K=>?_;refine p1 K (QG (b:=[97,110,100]) rfl rfl) fun _ K=>?_;refine Qb 1 K M fun _ K=>?_;refine Jt K rfl (fun h18=>?_) fun h18=>?_
 ·refine Jy ?_;refine QA (l:=[(6,0),(0,0),(1,0),(2,1),(3,0),(4,0),(5,1),(7,0),(8,0),(9,0),(10,0),(11,0)]) (by kernel_rfl) ?_;have Mq:=M;have Bq:=B;replace B:=B.step M;obtain⟨v26,st26,ev26,mp,rfl,hmp,hmr,q26⟩:=SU B.fresh;refine qA rfl K (Qf rfl ev26) fun _ K=>?_;replace B:=B.new (o:=Yr mp 401 false) q26 hmr (fun c hc=>by rw[show c=mp from hc];exact⟨hmp,hmr.lt q26.fresh⟩);have hmpn:=(B.uA (k:=0) rfl mp rfl).1;have M:=B.mem;have Mp:=Mq;have Mq:=M;have Bp:=Bq;have Bq:=B;refine q1 rfl K (Qy rfl) fun _ K=>?_;obtain⟨x21,m21,f21,q21,_,la21,lo21,lp21,la'21,lo'21,lp'21⟩:=Jg.NF ((B.step M).F5 hf hks) ((Bp.step Mp).F5 hf hks) (i:=0) (cs:=_) rfl;refine q1 rfl K (Qe (j:=0) Z2 (congrArg some q21) rfl Q4) fun _ K=>?_;refine Ju rfl K rfl (lo21 _ 0 _ UF rfl) (lo'21 _ 0 _ UF rfl) (JI rfl) rfl Q8 fun _ K=>?_;refine q1 rfl K (Qy rfl) fun _ K=>?_;obtain⟨x24,m24,f24,q24,_,la24,lo24,lp24,la'24,lo'24,lp'24⟩:=Jg.NF ((B.step M).F5 hf hks) ((Bp.step Mp).F5 hf hks) (i:=1) (cs:=_) rfl;refine q1 rfl K (Qe (j:=1) Z2 (congrArg some q24) rfl Q4) fun _ K=>?_;refine Ju rfl K rfl (lo24 _ 0 _ UF rfl) (lo'24 _ 0 _ UF rfl) (JI rfl) rfl Q8 fun _ K=>?_;replace B:=B.step M;have hle0:=B.le;obtain⟨v27,st27,ev27,hBP,QB⟩:=Mt B.fresh (hD.q B.qt) (hE.q B.qt) ht (t:=8) Q8 (show Qx _ mp 0 [iZ ((401:Nat):Int),.bool false]from B.at_ (k:=0) rfl) (fun h=>absurd (hD.hi mp h) Qc) (fun h=>absurd (hE.hi mp h) Qc) Q8 Q8;refine qA rfl K (Qf rfl ev27) fun _ K=>?_
  obtain⟨xv,ev,rfl,hJ⟩: ∃xv ev,v27=.tup [xv,iZ ev]∧XC st st27 (fun r=> ∃lp,I6 p q 8 lp r) (.tup [xv,iZ ev]):=by
   rcases hBP with⟨dp2,F2,lp,m,rfl,h2,h3,h4⟩|⟨rfl,lp,h2,h3,h4⟩
   ·exact⟨_,_,rfl,.inl ⟨dp2,F2,m,rfl,⟨lp,h2⟩,h3,fun c hc=>⟨Nat.le_trans hle0 (h4 c hc).1,(h4 c hc).2⟩⟩⟩
   ·refine⟨_,_,rfl,.inr ⟨rfl,fun r ⟨lq,hr⟩=>?_⟩⟩;have:=hr.1.iL h3 (fun Q h0 hs=>h4 Q h0 fun s c hq hc=>hs s c hq (by unfold Au.K;rw[hr.2];exact hc));omega
  replace B:=B.call (k:=0) (o':=Hu mp) rfl QB trivial (UC fun c hc=>Nat.lt_of_lt_of_le (B.Y3 (k:=0) rfl c hc) QB.le);have M:=B.mem;have Mp:=Mq;have Mq:=M;have Bp:=Bq;have Bq:=B;refine Jo 4 K M fun _ K=>?_;refine QF ?_;show W _ _ _ _ _ _ _;refine Qb 0 K M ?_;exact⟨hJ,(B.step M).qt⟩
 exfalso;exact h18 rfl

theorem MS(hf:Qi st)(hkc:Qr kc=true)(hks:Jg st.h.get [] 1 [[.ptr dp 0 0]] ks)(hD:UX st F dp p)(htr:p.tr=k+1): ∃v st',Jf 80 [.agg [.str BQ,iZ a,iZ b,iZ g,iZ n,kc],iN k,ks] st v st'∧XC st st' (fun r=> ∃acc L,EO p k acc∧UA (JY p k) [0] (anyS acc) L r∧r.tr=k) v∧Qt st st':=by
 have B:=Qk.start hf;refine J7 Tryz.func80 Tryz.ntmps80 fun T K=>?_;have M:=B.mem;refine au 5 K M ?_;intro c3 _ _ K _ M;refine p1 K (QG (b:=[110,111,116]) rfl rfl) fun _ K=>?_;refine Qb 1 K M fun _ K=>?_;refine Jt K rfl (fun h10=>?_) fun h10=>?_
 ·exfalso;simp at h10
 refine Qb 0 K M fun _ K=>?_;refine p1 K (QG (b:=[97,110,100]) rfl rfl) fun _ K=>?_;refine Qb 1 K M fun _ K=>?_;refine Jt K rfl (fun h18=>?_) fun h18=>?_
 ·exfalso;simp at h18
 refine Qb 0 K M fun _ K=>?_;refine p1 K (QG (b:=[101,120]) rfl rfl) fun _ K=>?_;refine Qb 1 K M fun _ K=>?_;refine Jt K rfl (fun h30=>?_) fun h30=>?_
 ·refine Jy ?_;refine QA (l:=[(4,0),(0,0),(1,0),(2,1),(3,0),(5,0),(6,0),(7,0),(8,0),(9,0)]) (by kernel_rfl) ?_;have Mq:=M;have Bq:=B;replace B:=B.step M;obtain⟨v36,st36,ev36,mp,rfl,hmp,hmr,q36⟩:=SU B.fresh;refine qA rfl K (Qf rfl ev36) fun _ K=>?_;replace B:=B.new (o:=Yr mp 401 false) q36 hmr (fun c hc=>by rw[show c=mp from hc];exact⟨hmp,hmr.lt q36.fresh⟩);have hmpn:=(B.uA (k:=0) rfl mp rfl).1;have M:=B.mem;have Mp:=Mq;have Mq:=M;have Bp:=Bq;have Bq:=B;refine q1 rfl K (Qy rfl) fun _ K=>?_;obtain⟨x33,m33,f33,q33,_,la33,lo33,lp33,la'33,lo'33,lp'33⟩:=Jg.NF ((B.step M).F5 hf hks) ((Bp.step Mp).F5 hf hks) (i:=0) (cs:=_) rfl;refine q1 rfl K (Qe (j:=0) Z2 (congrArg some q33) rfl Q4) fun _ K=>?_;refine Ju rfl K rfl (lo33 _ 0 _ UF rfl) (lo'33 _ 0 _ UF rfl) (JI rfl) rfl Q8 fun _ K=>?_;refine q1 rfl K (Qy rfl) fun _ K=>?_;replace B:=B.step M;have hle0:=B.le;obtain⟨v37,st37,ev37,⟨YE,hcl,hPR⟩,QB⟩:=D3 B.fresh (hD.q B.qt) (k:=k) Qc (show Qx _ mp 0 [iZ ((401:Nat):Int),.bool false]from B.at_ (k:=0) rfl) (fun h=>absurd (hD.hi mp h) Qc) Q8 Q8;refine qA rfl K (Qf rfl ev37) fun _ K=>?_
  obtain⟨xv,ev,rfl,hJ⟩: ∃xv ev,v37=.tup [xv,iZ ev]∧XC st st37 (fun r=> ∃acc L,EO p k acc∧UA (JY p k) [0] (anyS acc) L r∧r.tr=k) (.tup [xv,iZ ev]):=by
   rcases hPR with⟨dp2,F2,L,m,rfl,h2,h3,h4,h5,_⟩|⟨rfl,L,h2,h3,h4,_⟩
   ·exact⟨_,_,rfl,.inl ⟨dp2,F2,m,rfl,⟨YE,L,hcl,h5,by omega⟩,h2,fun c hc=>⟨Nat.le_trans hle0 (h3 c hc).1,(h3 c hc).2⟩⟩⟩
   ·refine⟨_,_,rfl,.inr ⟨rfl,fun r ⟨acc2,L2,_,hr,ht⟩=>?_⟩⟩;have:=hr.iL h3 (fun Q h0 hs=>h4 Q h0 fun s c hq hc=>hs s c hq (by unfold Au.K;rw[ht];rw[show p.tr-1=k by omega]at hc;exact hc));omega
  replace B:=B.call (k:=0) (o':=Hu mp) rfl QB trivial (UC fun c hc=>Nat.lt_of_lt_of_le (B.Y3 (k:=0) rfl c hc) QB.le);have M:=B.mem;have Mp:=Mq;have Mq:=M;have Bp:=Bq;have Bq:=B;refine Jo 4 K M fun _ K=>?_;refine QF ?_;show W _ _ _ _ _ _ _;refine Qb 0 K M ?_;exact⟨hJ,(B.step M).qt⟩
 exfalso;exact h30 rfl

theorem MT(hf:Qi st)(hR:Yy R st.h.get){o:List Nat}{an bn gn nn:Nat}{l:List Cr}{cs:List AV}(hr:YI R (.mk o ((an:Nat):Int) ((bn:Nat):Int) ((gn:Nat):Int) ((nn:Nat):Int) l) cs)(hat:VQ o)(hn:nn≤20)(ha6:an≤6)(hb6:bn≤6)(hg6:gn≤6)(hk6:k≤6)(hsz:Vg (.mk o ((an:Nat):Int) ((bn:Nat):Int) ((gn:Nat):Int) ((nn:Nat):Int) l)≤2000)(hc:QV (.mk o ((an:Nat):Int) ((bn:Nat):Int) ((gn:Nat):Int) ((nn:Nat):Int) l) ((k:Nat):Int)=true): ∃v st',Jf 80 [.agg cs,iN k,ks] st v st'∧XC st st' (fun r=>JR (Zo o an bn gn nn k) r) v∧Qt st st':=by
 have hr0:=hr;obtain⟨kc,ls,rfl,hK⟩:=hr.U0;have hln:=hK.ln;have hbn:=hK.W3
 have hne:o≠KB∧o≠HW∧o≠BQ:=by rcases hat with rfl|rfl|rfl|rfl|rfl|rfl|rfl|rfl|rfl|rfl|rfl<;>simp
 refine J7 Tryz.func80 Tryz.ntmps80 fun T K=>?_;have M:=Mem.start hf;refine Qb 0 K M fun _ K=>?_;refine Jv K M rfl (Qa rfl (Qa rfl (Qa rfl (Qa rfl (Qa rfl (Qa hK.cell Qz)))))) Q8 fun c3 _ _ K M=>?_;refine Qb 4 K M fun _ K=>?_;refine p1 K (QG (b:=[110,111,116]) rfl rfl) fun _ K=>?_;refine Qb 1 K M fun _ K=>?_;refine Jt K rfl (fun h10=>?_) fun h10=>?_
 ·exfalso;exact hne.1 h10
 refine Qb 0 K M fun _ K=>?_;refine p1 K (QG (b:=[97,110,100]) rfl rfl) fun _ K=>?_;refine Qb 1 K M fun _ K=>?_;refine Jt K rfl (fun h18=>?_) fun h18=>?_
 ·exfalso;exact hne.2.1 h18
 refine Qb 0 K M fun _ K=>?_;refine p1 K (QG (b:=[101,120]) rfl rfl) fun _ K=>?_;refine Qb 1 K M fun _ K=>?_;refine Jt K rfl (fun h30=>?_) fun h30=>?_
 ·exfalso;exact hne.2.2 h30
 refine Qb 2 K M fun _ K=>?_;have hle0:=M.le;obtain⟨v42,st42,ev42,dp2,F2,m,rfl,hlm,hD2,nf2,q42⟩:=aC M.fresh (M.Yy hR) hr0 hat hn ha6 hb6 hg6 hk6 hsz hc;refine p1 K (Qf rfl ev42) fun _ K=>?_;replace M:=M.quiet q42;refine Qb 4 K M ?_;exact⟨.inl ⟨dp2,F2,m,rfl,hlm,hD2,fun c hc=>⟨Nat.le_trans hle0 (nf2 c hc).1,(nf2 c hc).2⟩⟩,M.qt⟩

theorem uQ(hf:Qi st)(hR:Yy R st.h.get)(hK:YF R [] kc ls)(hRm: ∀c m r,R c m r→c≠mp)(hm:Qx st.h.get mp 0 [iN l,.bool false])(hl:l≤9223372036854775807)(hk6:k≤6){o:List Nat}(hat:VQ o): ∃v st',Jf 79 [.agg [.str o,iZ a,iZ b,iZ g,iZ n,kc],iN k,.ptr mp 0 0] st v st'∧v=.tup [.nils,iZ 0]∧Qt st st':=by
 have hkc:=hK.cell
 have hne:o≠BQ:=by rcases hat with rfl|rfl|rfl|rfl|rfl|rfl|rfl|rfl|rfl|rfl|rfl<;>simp
 refine J7 Tryz.func79 Tryz.ntmps79 fun T K=>?_;have M:=Mem.start hf;refine Qb 0 K M fun _ K=>?_;refine Jv K M rfl (Qa rfl (Qa rfl (Qa rfl (Qa rfl (Qa rfl (Qa hK.cell Qz)))))) Q8 fun c3 _ _ K M=>?_;refine Qb 4 K M fun _ K=>?_;refine p1 K (QG (b:=[101,120]) rfl rfl) fun _ K=>?_;refine Qb 0 K M fun _ K=>?_;refine Jt K rfl (fun h15=>?_) fun h15=>?_
 ·exfalso;exact hne h15
 refine Qb 3 K M fun _ K=>?_;refine p1 K (Q5 JN rfl rfl (show YD kc=some 0 from hK.len)) fun _ K=>?_;refine Qb 1 K M fun _ K=>?_;refine Jd ?_;refine Qb 1 K M fun _ K=>?_;refine Jt K rfl (fun h22=>?_) fun h22=>?_
 ·exfalso;omega
 refine QK ?_;show W _ _ _ _ _ _ _;refine Qb 3 K M ?_;exact⟨rfl,M.qt⟩

theorem RJ(hf:Qi st)(hR:Yy R st.h.get)(hK:YF R [x] kc ls)(hRm: ∀c m r,R c m r→c≠mp)(hm:Qx st.h.get mp 0 [iN l,.bool false])(hl:l≤9223372036854775807)(hk6:k≤6)(hx:KV x)(hszx:Vg x≤2000)(hk5:k≤6)(hcx_:QV x ((k:Nat):Int)=true): ∃v st',Jf 79 [.agg [.str KB,iZ a,iZ b,iZ g,iZ n,kc],iN k,.ptr mp 0 0] st v st'∧((∃ks dp F m s,v=.tup [ks,iZ 0]∧Qr ks=true∧Jg st'.h.get [] 1 [[.ptr dp 0 0]] ks∧UX st' F dp m∧ZP st st' F∧Jl x k m s∧s≤l∧Qx st'.h.get mp 0 [iZ (l-s:Nat),.bool false])∨(v=.tup [.nils,iZ 8]∧ ∀m s,Jl x k m s→l<s))∧UQ (fun c=>c=mp) st st':=by
 have hkc:=hK.cell;have B:=Qk.UK (o:=Yr mp l false) hf hm (fun c hc=>(show c=mp from hc)▸hm.lt hf);refine J7 Tryz.func79 Tryz.ntmps79 fun T K=>?_;have M:=B.mem;refine Qb 0 K M fun _ K=>?_;refine Jv K M rfl (Qa rfl (Qa rfl (Qa rfl (Qa rfl (Qa rfl (Qa hK.cell Qz)))))) Q8 fun c3 _ _ K M=>?_;refine Qb 4 K M fun _ K=>?_;refine p1 K (QG (b:=[101,120]) rfl rfl) fun _ K=>?_;refine Qb 0 K M fun _ K=>?_;refine Jt K rfl (fun h15=>?_) fun h15=>?_
 ·exfalso;simp at h15
 refine Qb 3 K M fun _ K=>?_;refine p1 K (Q5 JN rfl rfl (show YD kc=some 1 from hK.len)) fun _ K=>?_;refine Qb 1 K M fun _ K=>?_;refine Jd ?_;refine Qb 1 K M fun _ K=>?_;refine Uq K rfl (fun h22=>?_) fun h22=>?_
 ·have hb22:=h22;replace h22:=of_decide_eq_true h22;refine Qb 0 K M fun _ K=>?_;obtain⟨_,hc23,hn23⟩:=hK.get (i:=0) (k:=x) rfl;have hp23:=hn23;obtain⟨o23,a23,b23,g23,n23,l23,kc23,ls23,hxe23,rfl,hK23⟩:=hp23.zH;refine Te (hK.r (fun c m r hr=>(B.step M).U5 hf (hR c m r hr) (hRm c m r hr))) hc23 K Ji QW rfl rfl fun _ _ _ _ K=>?_;refine au 1 K M ?_;intro c10 _ _ K _ M;refine QU (k:=0) K M rfl rfl rfl ZJ rfl (Qa rfl (Qa rfl (Qa rfl (Qa rfl (Qa rfl (Qa hK23.cell Qz)))))) rfl fun _ M=>?_;refine Qb 3 K M fun _ K=>?_;replace B:=B.step M;have B0:=B;obtain⟨v29,st29,ev29,hco1,QB⟩:=hx k R _ _ mp l B.fresh (fun c m r hr=>B.U5 hf (hR c m r hr) (hRm c m r hr)) hn23 hRm (show Qx _ mp 0 [iN l,.bool false]from B.at_ (k:=0) rfl) Qc Qc hcx_ hszx;refine p1 K (Qf rfl ev29) fun _ K=>?_;obtain⟨xv1,ev1,rfl,hxc1,hd1⟩:=hco1.ex;replace B:=B.call (k:=0) (o':=Hu mp) rfl QB trivial (UC fun c hc=>Nat.lt_of_lt_of_le (B.Y3 (k:=0) rfl c hc) QB.le);have M:=B.mem;refine Qb 7 K M fun _ K=>?_;refine Uq K rfl (fun h33=>?_) fun h33=>?_
  ·have hb33:=h33
   replace h33: ¬(ev1=0):=by first|exact of_decide_eq_false h33|exact yF h33|simpa using h33
   refine Qb 3 K M ?_;obtain⟨rfl,rfl,hno⟩:=hd1.resolve_left (fun h=>h33 h.1);exact⟨.inr ⟨rfl,hno⟩,(B.step M).JM⟩
  have hb33:=h33
  replace h33:(ev1=0):=by first|exact of_decide_eq_true h33|exact yT h33|simpa using h33
  refine Qb 0 K M fun _ K=>?_;obtain⟨rfl,dp1,F1,m1,s1,rfl,hA1,hl1,hD1,nf1,hm1⟩:=hd1.resolve_right (fun h=>by have:=h.1;omega);replace B:=(B.step M).view (k:=0) (o':=Yr mp (l-s1) false) rfl hm1 (fun c hc=>hc);replace B:=B0.Zt (k:=0) (o:=Iv F1 dp1 m1) (om':=Yr mp (l-s1) false) rfl rfl (B.Xf Q4) hD1.at_ nf1;have M:=B.mem;refine au 3 K M ?_;intro c37 _ _ K _ M;refine QZ (k2:=0) (L:=[(c37,0,[.ptr dp1 0 0]),(c10,0,[.str o23,iZ a23,iZ b23,iZ g23,iZ n23,kc23]),(c3,0,[.str KB,iZ a,iZ b,iZ g,iZ n,kc])]) (A:=[]) (B:=[]) K M .none YC rfl rfl rfl rfl Q4 rfl fun ks38 A38 _ _ K hA38 M=>?_;refine Qb 3 K M fun _ K=>?_;refine Jd ?_;refine Qb 1 K M fun _ K=>?_;refine Uq K rfl (fun h22=>?_) fun h22=>?_
  ·have hb22:=h22;replace h22:=of_decide_eq_true h22
   exfalso;omega
  have hb22:=h22;replace h22:=of_decide_eq_false h22;refine QK ?_;show W _ _ _ _ _ _ _;refine Qb 3 K M ?_;exact⟨.inl ⟨_,dp1,F1,m1,s1,rfl,hA38.cell,(Mem.Ys (L:=[(c37,0,[.ptr dp1 0 0]),(c10,0,[.str o23,iZ a23,iZ b23,iZ g23,iZ n23,kc23]),(c3,0,[.str KB,iZ a,iZ b,iZ g,iZ n,kc])]) (B:=[]) M hA38),(B.step M).qS (k:=0) rfl,(B.step M).uo (k:=0) (j:=1) rfl rfl Q8 rfl,hA1,hl1,(B.step M).at_ (k:=1) rfl⟩,(B.step M).JM⟩
 have hb22:=h22;replace h22:=of_decide_eq_false h22
 exfalso;omega

theorem MO(hf:Qi st)(hR:Yy R st.h.get)(hK:YF R [x] kc ls)(hRm: ∀c m r,R c m r→c≠mp)(hm:Qx st.h.get mp 0 [iN l,.bool false])(hl:l≤9223372036854775807)(hk6:k≤6)(hx:KV x)(hszx:Vg x≤2000)(hk5:(k+1)≤6)(hcx_:QV x (((k+1):Nat):Int)=true): ∃v st',Jf 79 [.agg [.str BQ,iZ a,iZ b,iZ g,iZ n,kc],iN k,.ptr mp 0 0] st v st'∧((∃ks dp F m s,v=.tup [ks,iZ 0]∧Qr ks=true∧Jg st'.h.get [] 1 [[.ptr dp 0 0]] ks∧UX st' F dp m∧ZP st st' F∧Jl x (k+1) m s∧s≤l∧Qx st'.h.get mp 0 [iZ (l-s:Nat),.bool false])∨(v=.tup [.nils,iZ 8]∧ ∀m s,Jl x (k+1) m s→l<s))∧UQ (fun c=>c=mp) st st':=by
 have hkc:=hK.cell;have B:=Qk.UK (o:=Yr mp l false) hf hm (fun c hc=>(show c=mp from hc)▸hm.lt hf);refine J7 Tryz.func79 Tryz.ntmps79 fun T K=>?_;have M:=B.mem;refine Qb 0 K M fun _ K=>?_;refine Jv K M rfl (Qa rfl (Qa rfl (Qa rfl (Qa rfl (Qa rfl (Qa hK.cell Qz)))))) Q8 fun c3 _ _ K M=>?_;refine Qb 4 K M fun _ K=>?_;refine p1 K (QG (b:=[101,120]) rfl rfl) fun _ K=>?_;refine Qb 0 K M fun _ K=>?_;refine Jt K rfl (fun h15=>?_) fun h15=>?_
 ·refine Qb 6 K M fun _ K=>?_;refine p1 K (Q5 JN rfl rfl (show YD kc=some 1 from hK.len)) fun _ K=>?_;refine Qb 1 K M fun _ K=>?_;refine Jd ?_;refine Qb 1 K M fun _ K=>?_;refine Uq K rfl (fun h22=>?_) fun h22=>?_
  ·have hb22:=h22;replace h22:=of_decide_eq_true h22;refine Qb 0 K M fun _ K=>?_;obtain⟨_,hc23,hn23⟩:=hK.get (i:=0) (k:=x) rfl;have hp23:=hn23;obtain⟨o23,a23,b23,g23,n23,l23,kc23,ls23,hxe23,rfl,hK23⟩:=hp23.zH;refine Te (hK.r (fun c m r hr=>(B.step M).U5 hf (hR c m r hr) (hRm c m r hr))) hc23 K Ji QW rfl rfl fun _ _ _ _ K=>?_;refine au 1 K M ?_;intro c10 _ _ K _ M;refine QU (k:=0) K M rfl rfl rfl ZJ rfl (Qa rfl (Qa rfl (Qa rfl (Qa rfl (Qa rfl (Qa hK23.cell Qz)))))) rfl fun _ M=>?_;refine Qb 3 K M fun _ K=>?_;replace B:=B.step M;have B0:=B;obtain⟨v29,st29,ev29,hco1,QB⟩:=hx (k+1) R _ _ mp l B.fresh (fun c m r hr=>B.U5 hf (hR c m r hr) (hRm c m r hr)) hn23 hRm (show Qx _ mp 0 [iN l,.bool false]from B.at_ (k:=0) rfl) Qc Qc hcx_ hszx;refine p1 K (Qf rfl ev29) fun _ K=>?_;obtain⟨xv1,ev1,rfl,hxc1,hd1⟩:=hco1.ex;replace B:=B.call (k:=0) (o':=Hu mp) rfl QB trivial (UC fun c hc=>Nat.lt_of_lt_of_le (B.Y3 (k:=0) rfl c hc) QB.le);have M:=B.mem;refine Qb 7 K M fun _ K=>?_;refine Uq K rfl (fun h33=>?_) fun h33=>?_
   ·have hb33:=h33
    replace h33: ¬(ev1=0):=by first|exact of_decide_eq_false h33|exact yF h33|simpa using h33
    refine Qb 3 K M ?_;obtain⟨rfl,rfl,hno⟩:=hd1.resolve_left (fun h=>h33 h.1);exact⟨.inr ⟨rfl,hno⟩,(B.step M).JM⟩
   have hb33:=h33
   replace h33:(ev1=0):=by first|exact of_decide_eq_true h33|exact yT h33|simpa using h33
   refine Qb 0 K M fun _ K=>?_;obtain⟨rfl,dp1,F1,m1,s1,rfl,hA1,hl1,hD1,nf1,hm1⟩:=hd1.resolve_right (fun h=>by have:=h.1;omega);replace B:=(B.step M).view (k:=0) (o':=Yr mp (l-s1) false) rfl hm1 (fun c hc=>hc);replace B:=B0.Zt (k:=0) (o:=Iv F1 dp1 m1) (om':=Yr mp (l-s1) false) rfl rfl (B.Xf Q4) hD1.at_ nf1;have M:=B.mem;refine au 3 K M ?_;intro c37 _ _ K _ M;refine QZ (k2:=0) (L:=[(c37,0,[.ptr dp1 0 0]),(c10,0,[.str o23,iZ a23,iZ b23,iZ g23,iZ n23,kc23]),(c3,0,[.str BQ,iZ a,iZ b,iZ g,iZ n,kc])]) (A:=[]) (B:=[]) K M .none YC rfl rfl rfl rfl Q4 rfl fun ks38 A38 _ _ K hA38 M=>?_;refine Qb 3 K M fun _ K=>?_;refine Jd ?_;refine Qb 1 K M fun _ K=>?_;refine Uq K rfl (fun h22=>?_) fun h22=>?_
   ·have hb22:=h22;replace h22:=of_decide_eq_true h22
    exfalso;omega
   have hb22:=h22;replace h22:=of_decide_eq_false h22;refine QK ?_;show W _ _ _ _ _ _ _;refine Qb 3 K M ?_;exact⟨.inl ⟨_,dp1,F1,m1,s1,rfl,hA38.cell,(Mem.Ys (L:=[(c37,0,[.ptr dp1 0 0]),(c10,0,[.str o23,iZ a23,iZ b23,iZ g23,iZ n23,kc23]),(c3,0,[.str BQ,iZ a,iZ b,iZ g,iZ n,kc])]) (B:=[]) M hA38),(B.step M).qS (k:=0) rfl,(B.step M).uo (k:=0) (j:=1) rfl rfl Q8 rfl,hA1,hl1,(B.step M).at_ (k:=1) rfl⟩,(B.step M).JM⟩
  have hb22:=h22;replace h22:=of_decide_eq_false h22
  exfalso;omega
 exfalso;exact h15 rfl

theorem RK(hf:Qi st)(hR:Yy R st.h.get){y:Cr}(hK:YF R [x,y] kc ls)(hRm: ∀c m r,R c m r→c≠mp)(hm:Qx st.h.get mp 0 [iN l,.bool false])(hl:l≤9223372036854775807)(hk6:k≤6)(hx:KV x)(hszx:Vg x≤2000)(hy:KV y)(hszy:Vg y≤2000)(hcx_:QV x ((k:Nat):Int)=true)(hcy_:QV y ((k:Nat):Int)=true): ∃v st',Jf 79 [.agg [.str HW,iZ a,iZ b,iZ g,iZ n,kc],iN k,.ptr mp 0 0] st v st'∧((∃ks dp F m s dq F' m' t,v=.tup [ks,iZ 0]∧Qr ks=true∧Jg st'.h.get [] 1 [[.ptr dp 0 0],[.ptr dq 0 0]] ks∧UX st' F dp m∧UX st' F' dq m'∧Jl x k m s∧Jl y k m' t∧s+t≤l∧Qx st'.h.get mp 0 [iZ (l-s-t:Nat),.bool false])∨(v=.tup [.nils,iZ 8]∧ ∀m s m' t,Jl x k m s→Jl y k m' t→l<s+t))∧UQ (fun c=>c=mp) st st':=by
 have hkc:=hK.cell;have B:=Qk.UK (o:=Yr mp l false) hf hm (fun c hc=>(show c=mp from hc)▸hm.lt hf);refine J7 Tryz.func79 Tryz.ntmps79 fun T K=>?_;have M:=B.mem;refine Qb 0 K M fun _ K=>?_;refine Jv K M rfl (Qa rfl (Qa rfl (Qa rfl (Qa rfl (Qa rfl (Qa hK.cell Qz)))))) Q8 fun c3 _ _ K M=>?_;refine Qb 4 K M fun _ K=>?_;refine p1 K (QG (b:=[101,120]) rfl rfl) fun _ K=>?_;refine Qb 0 K M fun _ K=>?_;refine Jt K rfl (fun h15=>?_) fun h15=>?_
 ·exfalso;simp at h15
 refine Qb 3 K M fun _ K=>?_;refine p1 K (Q5 JN rfl rfl (show YD kc=some 2 from hK.len)) fun _ K=>?_;refine Qb 1 K M fun _ K=>?_;refine Jd ?_;refine Qb 1 K M fun _ K=>?_;refine Uq K rfl (fun h22=>?_) fun h22=>?_
 ·have hb22:=h22;replace h22:=of_decide_eq_true h22;refine Qb 0 K M fun _ K=>?_;obtain⟨_,hc23,hn23⟩:=hK.get (i:=0) (k:=x) rfl;have hp23:=hn23;obtain⟨o23,a23,b23,g23,n23,l23,kc23,ls23,hxe23,rfl,hK23⟩:=hp23.zH;obtain⟨x23,m23,f23,q23,_,la23,lo23,lp23⟩:=(hK.r (fun c m r hr=>(B.step M).U5 hf (hR c m r hr) (hRm c m r hr))).load (i:=0) (cs:=_) hc23;refine p1 K (Qe (j:=0) Ji (congrArg some q23) rfl (by rw[hK.ln];simp)) fun _ K=>p1 K (Qg rfl (la23 _ QW)) fun _ K=>?_;refine au 1 K M ?_;intro c10 _ _ K _ M;refine QU (k:=0) K M rfl rfl rfl ZJ rfl (Qa rfl (Qa rfl (Qa rfl (Qa rfl (Qa rfl (Qa hK23.cell Qz)))))) rfl fun _ M=>?_;refine Qb 3 K M fun _ K=>?_;replace B:=B.step M;have B0:=B;obtain⟨v29,st29,ev29,hco1,QB⟩:=hx k R _ _ mp l B.fresh (fun c m r hr=>B.U5 hf (hR c m r hr) (hRm c m r hr)) hn23 hRm (show Qx _ mp 0 [iN l,.bool false]from B.at_ (k:=0) rfl) Qc Qc hcx_ hszx;refine p1 K (Qf rfl ev29) fun _ K=>?_;obtain⟨xv1,ev1,rfl,hxc1,hd1⟩:=hco1.ex;replace B:=B.call (k:=0) (o':=Hu mp) rfl QB trivial (UC fun c hc=>Nat.lt_of_lt_of_le (B.Y3 (k:=0) rfl c hc) QB.le);have M:=B.mem;refine Qb 7 K M fun _ K=>?_;refine Uq K rfl (fun h33=>?_) fun h33=>?_
  ·have hb33:=h33
   replace h33: ¬(ev1=0):=by first|exact of_decide_eq_false h33|exact yF h33|simpa using h33
   refine Qb 3 K M ?_;obtain⟨rfl,rfl,hno⟩:=hd1.resolve_left (fun h=>h33 h.1);exact⟨.inr ⟨rfl,fun m s m' t h1 h2=>by have:=hno m s h1;omega⟩,(B.step M).JM⟩
  have hb33:=h33
  replace h33:(ev1=0):=by first|exact of_decide_eq_true h33|exact yT h33|simpa using h33
  refine Qb 0 K M fun _ K=>?_;obtain⟨rfl,dp1,F1,m1,s1,rfl,hA1,hl1,hD1,nf1,hm1⟩:=hd1.resolve_right (fun h=>by have:=h.1;omega);replace B:=(B.step M).view (k:=0) (o':=Yr mp (l-s1) false) rfl hm1 (fun c hc=>hc);replace B:=B0.Zt (k:=0) (o:=Iv F1 dp1 m1) (om':=Yr mp (l-s1) false) rfl rfl (B.Xf Q4) hD1.at_ nf1;have M:=B.mem;refine au 3 K M ?_;intro c37 _ _ K _ M;refine QZ (k2:=0) (L:=[(c37,0,[.ptr dp1 0 0]),(c10,0,[.str o23,iZ a23,iZ b23,iZ g23,iZ n23,kc23]),(c3,0,[.str HW,iZ a,iZ b,iZ g,iZ n,kc])]) (A:=[]) (B:=[]) K M .none YC rfl rfl rfl rfl Q4 rfl fun ks38 A38 _ _ K hA38 M=>?_;refine Qb 3 K M fun _ K=>?_;refine Jd ?_;refine Qb 1 K M fun _ K=>?_;refine Uq K rfl (fun h22=>?_) fun h22=>?_
  ·have hb22:=h22;replace h22:=of_decide_eq_true h22;refine Qb 0 K M fun _ K=>?_;replace M:=M.less (.cons _ (.cons _ (.cons_cons _ (.refl _))));obtain⟨_,hc23,hn23⟩:=hK.get (i:=1) (k:=y) rfl;have hp23:=hn23;obtain⟨o23,a23,b23,g23,n23,l23,kc23,ls23,hxe23,rfl,hK23⟩:=hp23.zH;obtain⟨x23,m23,f23,q23,_,la23,lo23,lp23⟩:=(hK.r (fun c m r hr=>(B.step M).U5 hf (hR c m r hr) (hRm c m r hr))).load (i:=1) (cs:=_) hc23;refine p1 K (Qe (j:=1) Ji (congrArg some q23) rfl (by rw[hK.ln];simp)) fun _ K=>p1 K (Qg rfl (la23 _ QW)) fun _ K=>?_;refine au 1 K M ?_;intro c10 _ _ K _ M;refine QU (k:=0) K M rfl rfl rfl ZJ rfl (Qa rfl (Qa rfl (Qa rfl (Qa rfl (Qa rfl (Qa hK23.cell Qz)))))) rfl fun _ M=>?_;refine Qb 3 K M fun _ K=>?_;replace B:=B.step M;have B0:=B;obtain⟨v29,st29,ev29,hco2,QB⟩:=hy k R _ _ mp (l-s1) B.fresh (fun c m r hr=>B.U5 hf (hR c m r hr) (hRm c m r hr)) hn23 hRm (show Qx _ mp 0 [iZ (l-s1:Nat),.bool false]from B.at_ (k:=1) rfl) Qc Qc hcy_ hszy;refine p1 K (Qf rfl ev29) fun _ K=>?_;obtain⟨xv2,ev2,rfl,hxc2,hd2⟩:=hco2.ex;replace B:=B.call (k:=1) (o':=Hu mp) rfl QB trivial (UC fun c hc=>Nat.lt_of_lt_of_le (B.Y3 (k:=1) rfl c hc) QB.le);have M:=B.mem;refine Qb 7 K M fun _ K=>?_;refine Uq K rfl (fun h33=>?_) fun h33=>?_
   ·have hb33:=h33
    replace h33: ¬(ev2=0):=by first|exact of_decide_eq_false h33|exact yF h33|simpa using h33
    refine Qb 3 K M ?_;obtain⟨rfl,rfl,hno⟩:=hd2.resolve_left (fun h=>h33 h.1);exact⟨.inr ⟨rfl,fun m s m' t h1 h2=>by have:=hno m' t h2;obtain⟨_,rfl⟩:=h1.uniq hA1;omega⟩,(B.step M).JM⟩
   have hb33:=h33
   replace h33:(ev2=0):=by first|exact of_decide_eq_true h33|exact yT h33|simpa using h33
   refine Qb 0 K M fun _ K=>?_;obtain⟨rfl,dp2,F2,m2,s2,rfl,hA2,hl2,hD2,nf2,hm2⟩:=hd2.resolve_right (fun h=>by have:=h.1;omega);replace B:=(B.step M).view (k:=1) (o':=Yr mp ((l-s1)-s2) false) rfl hm2 (fun c hc=>hc);replace B:=B0.Zt (k:=1) (o:=Iv F2 dp2 m2) (om':=Yr mp ((l-s1)-s2) false) rfl rfl (B.Xf Q4) hD2.at_ nf2;have M:=B.mem;refine au 3 K M ?_;intro c37 _ _ K _ M;refine QZ (k2:=0) (L:=[(c37,0,[.ptr dp2 0 0]),(c10,0,[.str o23,iZ a23,iZ b23,iZ g23,iZ n23,kc23]),(c3,0,[.str HW,iZ a,iZ b,iZ g,iZ n,kc])]) (B:=[]) K M hA38 YC rfl rfl rfl rfl Q4 rfl fun ks38 A38 _ _ K hA38 M=>?_;refine Qb 3 K M fun _ K=>?_;refine Jd ?_;refine Qb 1 K M fun _ K=>?_;refine Uq K rfl (fun h22=>?_) fun h22=>?_
   ·have hb22:=h22;replace h22:=of_decide_eq_true h22
    exfalso;omega
   have hb22:=h22;replace h22:=of_decide_eq_false h22;refine QK ?_;show W _ _ _ _ _ _ _;refine Qb 3 K M ?_;exact⟨.inl ⟨_,dp1,F1,m1,s1,dp2,F2,m2,s2,rfl,hA38.cell,(Mem.Ys (L:=[(c37,0,[.ptr dp2 0 0]),(c10,0,[.str o23,iZ a23,iZ b23,iZ g23,iZ n23,kc23]),(c3,0,[.str HW,iZ a,iZ b,iZ g,iZ n,kc])]) (B:=[]) M hA38),(B.step M).qS (k:=1) rfl,(B.step M).qS (k:=0) rfl,hA1,hA2,by omega,(B.step M).at_ (k:=2) rfl⟩,(B.step M).JM⟩
  have hb22:=h22;replace h22:=of_decide_eq_false h22
  exfalso;omega
 have hb22:=h22;replace h22:=of_decide_eq_false h22
 exfalso;omega
end
section
variable {R:VN} {a b g n:Int} {cs:List AV} {k lf mp:Nat} {l:List Cr} {o:List Nat} {st:St}

def zE(st':St)(x:Cr)(cs:List AV)(k mp l:Nat)(v:AV):Prop:=
 (∃ks s,∃J:Au→Prop,v=.tup [ks,.int .i64 0]∧Qr ks=true∧s≤l∧Qx st'.h.get mp 0 [.int .i64 (l-s:Nat),.bool false]∧(∀r m,J r→JR r m→Jl x k m (s+m.n))∧(∀m t,Jl x k m t→ ∃r,J r)∧
  ∃v2 st2,Jf 80 [.agg cs,.int .i64 (k:Nat),ks] st' v2 st2∧XC st' st2 J v2∧Qt st' st2)∨(v=.tup [.nils,.int .i64 8]∧ ∀m t,Jl x k m t→l<t)
theorem zE.ex{st':St}{x:Cr}{l:Nat}{v:AV}(h:zE st' x cs k mp l v): ∃ks ev,v=.tup [ks,.int .i64 ev]∧Qr ks=true∧((ev=0∧ ∃s,∃J:Au→Prop,s≤l∧Qx st'.h.get mp 0 [.int .i64 (l-s:Nat),.bool false]∧(∀r m,J r→JR r m→Jl x k m (s+m.n))∧(∀m t,Jl x k m t→ ∃r,J r)∧
  ∃v2 st2,Jf 80 [.agg cs,.int .i64 (k:Nat),ks] st' v2 st2∧XC st' st2 J v2∧Qt st' st2)∨(ev=8∧ ∀m t,Jl x k m t→l<t)):=by
 rcases h with⟨ks,s,J,h1,h2,h3⟩|⟨h1,h2⟩
 ·exact⟨_,_,h1,h2,.inl ⟨rfl,s,J,h3⟩⟩
 ·exact⟨_,_,h1,rfl,.inr ⟨rfl,h2⟩⟩
theorem XC.ex{st':St}{J:Au→Prop}{v:AV}(h:XC st st' J v): ∃xv ev,v=.tup [xv,.int .i64 ev]∧Qr xv=true∧((ev=0∧ ∃dp F r,xv=.ptr dp 0 0∧J r∧UX st' F dp r∧ZP st st' F)∨(ev=8∧xv=.nilp∧ ∀r,¬J r)):=by
 rcases h with⟨dp,F,r,h1,h2⟩|⟨h1,h2⟩
 ·exact⟨_,_,h1,rfl,.inl ⟨rfl,dp,F,r,rfl,h2⟩⟩
 ·exact⟨_,_,h1,rfl,.inr ⟨rfl,rfl,h2⟩⟩
theorem Z9{m:Int}(h:QV (.mk o a b g n l) m=true):(VQ o∧l=[])∨(o=KB∧ ∃x,l=[x]∧QV x m=true)∨(o=HW∧ ∃x y,l=[x,y]∧QV x m=true∧QV y m=true)∨(o=BQ∧ ∃x,l=[x]∧m<6∧QV x (m+1)=true):=by
 rw[QV]at h;simp only[Bool.and_eq_true,decide_eq_true_eq]at h;obtain⟨h1,h2,h3,h4⟩:=h
 by_cases e1:o=KB
 ·subst e1
  have hl:l.length=1:=by rw[show(Uj KB).2.1=1 by decide]at h2;omega
  obtain⟨x,rfl⟩:=List.length_eq_one_iff.1 hl;rw[if_neg Q8]at h4;simp only[Bool.and_eq_true,Xu]at h4;exact .inr (.inl ⟨rfl,x,rfl,h4.2.2.2.1⟩)
 by_cases e2:o=HW
 ·subst e2
  have hl:l.length=2:=by rw[show(Uj HW).2.1=2 by decide]at h2;omega
  obtain⟨x,y,rfl⟩: ∃x y,l=[x,y]:=by
   match l,hl with
   |[x,y],_=>exact⟨x,y,rfl⟩
  rw[if_neg Q8]at h4;simp only[Bool.and_eq_true,Xu]at h4;exact .inr (.inr (.inl ⟨rfl,x,y,rfl,h4.2.2.2.1,h4.2.2.2.2.1⟩))
 by_cases e3:o=BQ
 ·subst e3
  have hl:l.length=1:=by rw[show(Uj BQ).2.1=1 by decide]at h2;omega
  obtain⟨x,rfl⟩:=List.length_eq_one_iff.1 hl;rw[if_pos rfl]at h4;simp only[Bool.and_eq_true,decide_eq_true_eq,Xu]at h4;exact .inr (.inr (.inr ⟨rfl,x,rfl,h4.2.1,h4.2.2.2.2.1⟩))
 have hat:VQ o:=by
  refine Classical.byContradiction fun hn=>?_;unfold VQ at hn;simp only[not_or]at hn;obtain⟨n1,n2,n3,n4,n5,n6,n7,n8,n9,n10,n11⟩:=hn;unfold Uj at h1;rw[if_neg (Ne.symm n1),if_neg (Ne.symm n2),if_neg (Ne.symm n7),if_neg (Ne.symm n8),if_neg (Ne.symm n3),if_neg (Ne.symm n9),if_neg (Ne.symm n10),if_neg (Ne.symm n11),if_neg (Ne.symm n4),if_neg (Ne.symm n5),if_neg (Ne.symm n6),if_neg (Ne.symm e1),if_neg (Ne.symm e2),if_neg (Ne.symm e3)]at h1;cases h1
 have hl:(Uj o).2.1=0:=by rcases hat with rfl|rfl|rfl|rfl|rfl|rfl|rfl|rfl|rfl|rfl|rfl<;>decide
 exact .inl ⟨hat,List.eq_nil_of_length_eq_zero Qc⟩
theorem uP(hf:Qi st)(hR:Yy R st.h.get){kc:AV}(hr:YI R (.mk o a b g n l) [.str o,.int .i64 a,.int .i64 b,.int .i64 g,.int .i64 n,kc])(ih: ∀y∈l,KV y)(hRm: ∀c m r,R c m r→c≠mp)(hm:Qx st.h.get mp 0 [.int .i64 (lf:Nat),.bool false])(hl:lf≤9223372036854775807)(hk6:k≤6)(hc:QV (.mk o a b g n l) ((k:Nat):Int)=true)(hsz:Vg (.mk o a b g n l)≤2000):
  ∃v st',Jf 79 [.agg [.str o,.int .i64 a,.int .i64 b,.int .i64 g,.int .i64 n,kc],.int .i64 (k:Nat),.ptr mp 0 0] st v st'∧zE st' (.mk o a b g n l) [.str o,.int .i64 a,.int .i64 b,.int .i64 g,.int .i64 n,kc] k mp lf v∧UQ (fun c=>c=mp) st st':=by
 obtain⟨l',ls,hle,hK⟩:=hr.shape
 injection hle with _ _ _ _ _ hle
 subst hle;rw[Vg]at hsz;have hkc:=hK.cell
 have hin: ∀st',UQ (fun c=>c=mp) st st'→Yy R st'.h.get:=fun st' Q c m r h=>by
  obtain⟨ro,e,vs,ms,h2,h3⟩:=hR c m r h;exact⟨ro,e,vs,ms,by rw[Q.J9 c (Nat.lt_of_not_le fun hle=>by rw[hf c hle]at h2;cases h2) (hRm c m r h)];exact h2,h3⟩
 rcases Z9 hc with⟨hat,rfl⟩|⟨rfl,x,rfl,hcx⟩|⟨rfl,x,y,rfl,hcx,hcy⟩|⟨rfl,x,rfl,hk5,hcx⟩
 ·obtain⟨v,st',h1,h2,q⟩:=uQ hf hR hK hRm hm hl hk6 (a:=a) (b:=b) (g:=g) (n:=n) hat;have hc0:=hc;obtain⟨_,an,bn,gn,nn,rfl,rfl,rfl,rfl,b1,b2,b3,b4⟩:=KO hat hc Qc;have Q:UQ (fun c=>c=mp) st st':=⟨q.fresh,q.le,fun c hc _=>q.J9 c hc⟩
  have hne:o≠[110,111,116]∧o≠[97,110,100]∧o≠[101,120]:=by rcases hat with rfl|rfl|rfl|rfl|rfl|rfl|rfl|rfl|rfl|rfl|rfl<;>simp
  obtain⟨v2,st2,j1,j2,j3⟩:=MT q.fresh (hin _ Q) hr hat b4 b1 b2 b3 hk6 (by rw[Vg];exact hsz) hc0 (ks:=.nils);refine⟨v,st',h1,.inl ⟨.nils,0,_,h2,rfl,Nat.zero_le _,?_,fun r m hJ hlm=>?_,fun m t hA=>?_,v2,st2,j1,j2,j3⟩,Q⟩
  ·exact hm.frame (q.J9 mp (hm.lt hf))
  ·rw[Nat.zero_add];exact .atom hne.1 hne.2.1 hne.2.2 (hlm.trans hJ.like hJ.tr.symm)
  ·cases hA with
   |atom _ _ _ h=>exact⟨m,h⟩
 ·obtain⟨v,st',h1,h2,Q⟩:=RJ hf hR hK hRm hm hl hk6 (ih x Q4) (by rw[Zf,Zf]at hsz;omega) hk6 hcx (a:=a) (b:=b) (g:=g) (n:=n);refine⟨v,st',h1,?_,Q⟩;rcases h2 with⟨ks,dp,F,m,s,rfl,a1,a2,a3,a4,a5,a6,a7⟩|⟨rfl,hno⟩
  ·obtain⟨v2,st2,j1,j2,j3⟩:=RM Q.fresh hkc a2 a3 (a:=a) (b:=b) (g:=g) (n:=n) (k:=k);exact .inl ⟨ks,s,fun r=>r=m.neg,rfl,a1,a6,a7,fun r m' hJ hlm=>by subst hJ;exact .not rfl a5 hlm,fun m' t hA=>⟨_,rfl⟩,v2,st2,j1,j2,j3⟩
  ·refine .inr ⟨rfl,fun m t hA=>?_⟩
   cases hA with
   |not ho hx h=>have:=hno _ _ hx;omega
   |ex ho=>cases ho
 ·obtain⟨v,st',h1,h2,Q⟩:=RK hf hR hK hRm hm hl hk6 (ih x Q4) (by rw[Zf,Zf,Zf]at hsz;omega) (ih y Q4) (by rw[Zf,Zf,Zf]at hsz;omega) hcx hcy (a:=a) (b:=b) (g:=g) (n:=n);refine⟨v,st',h1,?_,Q⟩;rcases h2 with⟨ks,dp,F,m,s,dq,F',m',t,rfl,a1,a2,a3,a4,a5,a6,a7,a8⟩|⟨rfl,hno⟩
  ·obtain⟨v2,st2,j1,j2,j3⟩:=RN Q.fresh hkc a2 a3 a4 (a6.tr.trans a5.tr.symm) (a:=a) (b:=b) (g:=g) (n:=n) (k:=k);refine .inl ⟨ks,s+t,_,rfl,a1,a7,by rw[show lf-(s+t)=lf-s-t by omega];exact a8,fun r m' hJ hlm=>?_,fun m' t hA=>?_,v2,st2,j1,j2,j3⟩
   ·obtain⟨lp,hJ⟩:=hJ;exact .and rfl a5 a6 hJ hlm
   ·cases hA with
    |and _ hx hy hb h=>
     obtain⟨rfl,_⟩:=a5.uniq hx;obtain⟨rfl,_⟩:=a6.uniq hy;exact⟨_,_,hb⟩
  ·refine .inr ⟨rfl,fun m t hA=>?_⟩
   cases hA with
   |and ho hx hy hb h=>have:=hno _ _ _ _ hx hy;omega
 ·obtain⟨v,st',h1,h2,Q⟩:=MO hf hR hK hRm hm hl hk6 (ih x Q4) (by rw[Zf,Zf]at hsz;omega) Qc hcx (a:=a) (b:=b) (g:=g) (n:=n);refine⟨v,st',h1,?_,Q⟩;rcases h2 with⟨ks,dp,F,m,s,rfl,a1,a2,a3,a4,a5,a6,a7⟩|⟨rfl,hno⟩
  ·obtain⟨v2,st2,j1,j2,j3⟩:=MS Q.fresh hkc a2 a3 a5.tr (a:=a) (b:=b) (g:=g) (n:=n) (k:=k);refine .inl ⟨ks,s,_,rfl,a1,a6,a7,fun r m' hJ hlm=>?_,fun m' t hA=>?_,v2,st2,j1,j2,j3⟩
   ·obtain⟨acc,L,b1,b2,b3⟩:=hJ;exact .ex rfl a5 b1 b2 b3 hlm
   ·cases hA with
    |not ho=>cases ho
    |ex _ hx hc hm ht h=>
     obtain⟨rfl,_⟩:=a5.uniq hx;exact⟨_,_,_,hc,hm,ht⟩
  ·refine .inr ⟨rfl,fun m t hA=>?_⟩
   cases hA with
   |not ho=>cases ho
   |ex ho hx hc hm ht h=>have:=hno _ _ hx;omega

theorem Sk(hf:Qi st)(hR:Yy R st.h.get)(hr:YI R (.mk o a b g n l) cs)(ih: ∀y∈l,KV y)(hRm: ∀c m r,R c m r→c≠mp)(hm:Qx st.h.get mp 0 [iN lf,.bool false])(hl:lf≤9223372036854775807)(hk6:k≤6)(hc:QV (.mk o a b g n l) ((k:Nat):Int)=true)(hsz:Vg (.mk o a b g n l)≤2000): ∃v st',Jf 54 [.agg cs,iN k,.ptr mp 0 0] st v st'∧I5 st st' (.mk o a b g n l) k mp lf v∧UQ (fun c=>c=mp) st st':=by
 have hr0:=hr;obtain⟨kc,ls,rfl,hK⟩:=hr.U0;have hln:=hK.ln;have hbn:=hK.W3;have B:=Qk.UK (o:=Yr mp lf false) hf hm (fun c hc=>(show c=mp from hc)▸hm.lt hf);refine J7 Tryz.func54 Tryz.ntmps54 fun T K=>?_;have M:=B.mem;refine Qb 0 K M fun _ K=>?_;refine Jv K M rfl (Qa rfl (Qa rfl (Qa rfl (Qa rfl (Qa rfl (Qa hK.cell Qz)))))) Q8 fun c3 _ _ K M=>?_;refine Qb 5 K M fun _ K=>?_;replace B:=B.step M;obtain⟨v15,st15,ev15,hko,QB⟩:=uP B.fresh (fun c m r hr=>B.U5 hf (hR c m r hr) (hRm c m r hr)) hr0 ih hRm (show Qx _ mp 0 [iN lf,.bool false]from B.at_ (k:=0) rfl) hl hk6 hc hsz;refine p1 K (Qf rfl ev15) fun _ K=>?_;obtain⟨ks,ev,rfl,hksc,hd⟩:=hko.ex;replace B:=B.call (k:=0) (o':=Hu mp) rfl QB trivial (UC fun c hc=>Nat.lt_of_lt_of_le (B.Y3 (k:=0) rfl c hc) QB.le);have M:=B.mem;refine Qb 7 K M fun _ K=>?_;refine Uq K rfl (fun h19=>?_) fun h19=>?_
 ·have hb19:=h19
  replace h19: ¬(ev=0):=by first|exact of_decide_eq_false h19|exact yF h19|simpa using h19
  refine Qb 3 K M ?_;obtain⟨rfl,hno⟩:=hd.resolve_left (fun h=>h19 h.1);exact⟨.inr ⟨rfl,hno⟩,(B.step M).JM⟩
 have hb19:=h19
 replace h19:(ev=0):=by first|exact of_decide_eq_true h19|exact yT h19|simpa using h19
 refine Qb 0 K M fun _ K=>?_;obtain⟨rfl,sk,J,hsl,hmr,hJ1,hJ2,hjo⟩:=hd.resolve_right (fun h=>by have:=h.1;omega);replace B:=(B.step M).view (k:=0) (o':=Yr mp (lf-sk) false) rfl hmr (fun c hc=>hc);have M:=B.mem;refine Qb 3 K M fun _ K=>?_;obtain⟨v25,st25,ev25,hJo,q25⟩:=hjo;refine p1 K (Qf rfl ev25) fun _ K=>?_;obtain⟨xv,ev2,rfl,hxc,hdj⟩:=hJo.ex;replace B:=(B.step M).quiet q25;have M:=B.mem;refine Qb 7 K M fun _ K=>?_;refine Uq K rfl (fun h29=>?_) fun h29=>?_
 ·have hb29:=h29
  replace h29: ¬(ev2=0):=by first|exact of_decide_eq_false h29|exact yF h29|simpa using h29
  refine Qb 3 K M ?_;obtain⟨rfl,rfl,hno⟩:=hdj.resolve_left (fun h=>h29 h.1);exact⟨.inr ⟨rfl,fun m t hA=>by obtain⟨r,hr⟩:=hJ2 m t hA;exact absurd hr (hno r)⟩,(B.step M).JM⟩
 have hb29:=h29
 replace h29:(ev2=0):=by first|exact of_decide_eq_true h29|exact yT h29|simpa using h29
 refine Qb 0 K M fun _ K=>?_;obtain⟨rfl,dp1,F1,r,rfl,hJr,hD1,nf1⟩:=hdj.resolve_right (fun h=>by have:=h.1;omega);refine Qb 1 K M fun _ K=>?_;obtain⟨v33,st33,ev33,dp2,F2,m,rfl,hlm,hD2,nf2,q33⟩:=Ts M.fresh hD1;refine p1 K (Qf rfl ev33) fun _ K=>?_;replace B:=(B.step M).new (o:=Iv F2 dp2 m) q33 hD2.at_ nf2;have hmn:m.n≤400:=hlm.canon.wf.most;have M:=B.mem;refine Qb 7 K M fun _ K=>?_;refine Uq K rfl (fun h37=>?_) fun h37=>?_
 ·have hb37:=h37
  replace h37: ¬(0=0):=by first|exact of_decide_eq_false h37|exact yF h37|simpa using h37
  exfalso;omega
 have hb37:=h37
 replace h37:(0=0):=by first|exact of_decide_eq_true h37|exact yT h37|simpa using h37
 refine Qb 2 K M fun _ K=>?_;refine oQ K M (Bb M.fresh ((B.step M).qS (k:=0) rfl)) rfl rfl fun _ _ K M=>?_;replace B:=B.step M;obtain⟨v42,st42,ev42,rfl,hm3,Q3⟩:=GI B.fresh (show Qx _ mp 0 [iZ (lf-sk:Nat),.bool false]from B.at_ (k:=1) rfl) Qc m.n Qc;refine p1 K (Qf rfl ev42) fun _ K=>?_;replace B:=B.call (k:=1) (o':=Yr mp (UO (lf-sk) false m.n) (Zu (lf-sk) false m.n)) rfl Q3 hm3 (UC fun c hc=>Nat.lt_of_lt_of_le (B.Y3 (k:=1) rfl c hc) Q3.le);have M:=B.mem;refine Qb 1 K M fun _ K=>?_;refine Uq K rfl (fun h43=>?_) fun h43=>?_
 ·have hb43:=h43
  replace h43:((BZ (lf-sk) false m.n))=false:=by simpa using h43
  refine Qb 2 K M ?_
  have hlt:lf-sk<m.n:=by simpa [BZ]using h43
  have hA:=hJ1 r m hJr hlm;exact⟨.inr ⟨rfl,fun m' t h=>by obtain⟨_,rfl⟩:=hA.uniq h;omega⟩,(B.step M).JM⟩
 have hb43:=h43
 replace h43:((BZ (lf-sk) false m.n))=true:=by simpa using h43
 refine Qb 3 K M ?_
 have hle:m.n≤lf-sk:=by simpa [BZ]using h43
 have hA:=hJ1 r m hJr hlm;refine⟨.inl ⟨dp2,F2,m,sk+m.n,rfl,hA,by omega,(B.step M).qS (k:=0) rfl,(B.step M).uo (k:=0) (j:=1) rfl rfl Q8 rfl,?_⟩,(B.step M).JM⟩;have hrow:Qx _ mp 0 [iZ (UO (lf-sk) false m.n:Nat),.bool (Zu (lf-sk) false m.n)]:=(B.step M).at_ (k:=1) rfl;rw[GJ,HZ hle,show lf-sk-m.n=lf-(sk+m.n) by omega]at hrow;exact hrow

theorem yI(x:Cr):KV x:=E9 (M:=KV) (fun o a b g n l ih k R st cs mp lf hf hR hr hRm hm hl hk6 hc hsz=>Sk hf hR hr ih hRm hm hl hk6 hc hsz) x

theorem Ot(hf:Qi st)(hR:Yy R st.h.get)(hr:YI R (.mk o a b g n l) cs)(hRm: ∀c m r,R c m r→c≠mp)(hm:Qx st.h.get mp 0 [iN lf,.bool false])(hl:lf≤9223372036854775807)(hk6:k≤6)(hc:QV (.mk o a b g n l) ((k:Nat):Int)=true)(hsz:Vg (.mk o a b g n l)≤2000): ∃v st',Jf 20 [.agg cs,iN k,.ptr mp 0 0] st v st'∧I5 st st' (.mk o a b g n l) k mp lf v∧UQ (fun c=>c=mp) st st':=by
 have hr0:=hr;obtain⟨kc,ls,rfl,hK⟩:=hr.U0;have hln:=hK.ln;have hbn:=hK.W3;have B:=Qk.UK (o:=Yr mp lf false) hf hm (fun c hc=>(show c=mp from hc)▸hm.lt hf);refine J7 Tryz.func20 Tryz.ntmps20 fun T K=>?_;have M:=B.mem;refine Qb 0 K M fun _ K=>?_;refine Jv K M rfl (Qa rfl (Qa rfl (Qa rfl (Qa rfl (Qa rfl (Qa hK.cell Qz)))))) Q8 fun c3 _ _ K M=>?_;refine Qb 4 K M fun _ K=>?_;refine oQ K M (TE M.fresh (fun c m r hr=>(B.step M).U5 hf (hR c m r hr) (hRm c m r hr)) hr0 (m:=((k:Nat):Int)) Qc Qc hsz hc) rfl rfl fun _ _ K M=>?_;refine Qb 5 K M fun _ K=>?_;replace B:=B.step M;obtain⟨v15,st15,ev15,hco,QB⟩:=yI _ k R _ _ mp lf B.fresh (fun c m r hr=>B.U5 hf (hR c m r hr) (hRm c m r hr)) hr0 hRm (show Qx _ mp 0 [iN lf,.bool false]from B.at_ (k:=0) rfl) hl hk6 hc hsz;refine p1 K (Qf rfl ev15) fun _ K=>?_;obtain⟨xv,ev,rfl,hxc,hd⟩:=hco.ex;have hle0:=B.le;replace B:=B.call (k:=0) (o':=Hu mp) rfl QB trivial (UC fun c hc=>Nat.lt_of_lt_of_le (B.Y3 (k:=0) rfl c hc) QB.le);have M:=B.mem;refine Qb 4 K M ?_;refine⟨?_,(B.step M).JM⟩;rcases hd with⟨rfl,dp,F,m,t,rfl,h2,h3,h4,h5,h6⟩|⟨rfl,rfl,h2⟩
 ·exact .inl ⟨dp,F,m,t,rfl,h2,h3,h4,fun c hc=>⟨Nat.le_trans hle0 (h5 c hc).1,(h5 c hc).2⟩,h6⟩
 ·exact .inr ⟨rfl,h2⟩
end
section
variable {E O:Bool} {cp mp:Nat} {ka kn:AV} {m:Au} {st:St}

def Xk(h:Hp)(F:Fp)(m:Au)(ka kn:AV):Prop:= ∃ls,∀h':Hp,(∀c,F c→h' c=h c)→Jg h' [] 1 (bC m.acc) ka∧OC h' m.nx kn ls
theorem Xk.frame{h h':Hp}{F:Fp}(e: ∀c,F c→h' c=h c)(H:Xk h F m ka kn):Xk h' F m ka kn:=by
 obtain⟨ls,H⟩:=H;exact⟨ls,fun h2 e2=>H h2 fun c hc=>(e2 c hc).trans (e c hc)⟩
def FT(F:Fp)(b:Bool)(m:Au)(ka kn:AV):Ob:=⟨F,fun h=>b=false→Xk h F m ka kn,fun _ _ e H hb=>(H hb).frame e⟩
theorem AP.fU{st':St}{v:AV}(h:AP st st' m v)(hf:Qi st'): ∃ka kn F,v=.agg [.int .i64 (m.tr:Nat),ka,kn]∧Xk st'.h.get F m ka kn∧ZP st st' F∧Qr ka=true∧Qr kn=true:=by
 obtain⟨ka,kn,vs,A,F,h1,h2,h3,h4,h5,h6⟩:=h;refine⟨ka,kn,fun c=>F c∨ ∃m l,(c,m,l)∈A,h1,⟨vs.map fun v=>[v],fun h' e=>⟨?_,(h3.frame fun c hc=>e c (.inl hc)).r⟩⟩,fun c hc=>?_,h2.cell,h3.rd.cell⟩
 ·exact UZ.rd (F:=fun _=>True) ⟨A,h2,fun c m l hm=>⟨(h6 c m l hm).1.frame (e c (.inr ⟨m,l,hm⟩)),trivial⟩⟩
 ·rcases hc with hc|⟨m,l,hm⟩
  ·exact h4 c hc
  ·exact⟨(h6 c m l hm).2.1,(h6 c m l hm).1.lt hf⟩
def I0(cp mp:Nat)(E O:Bool)(lf:Nat):Ob:=⟨fun c=>c=cp∨c=mp,fun h=>Qx h cp 0 [.ptr mp 0 0,.bool E,.bool O]∧((E||O)=false→Qx h mp 0 [.int .i64 (lf:Nat),.bool false]),fun _ _ e H=>⟨H.1.frame (e cp (.inl rfl)),fun h=>(H.2 h).frame (e mp (.inr rfl))⟩⟩
theorem Qk.S0{st0:St}{X0:Fp}{M:QM}{Os:List Ob}{F:Fp}{l:Nat}{o:Bool}(B:Qk st0 X0 st M Os){j k:Nat}(hj:Os[j]? =some (FT F false m ka kn))(hk:Os[k]? =some (Yr mp l o))(hne:j≠k): ∃ls,KW st mp m ka kn ls:=by
 obtain⟨ls,H⟩:=(show Xk st.h.get F m ka kn from B.at_ hj rfl);exact⟨ls,fun h' e=>H h' fun c hc=>e c (B.Y3 hj c hc) fun h=>B.J2 hj hk hne c hc h⟩
theorem ui(hf:Qi st)(hA:Jg st.h.get [] 1 (bC m.acc) ka)(hnc:Qr kn=true)(hml:m.acc.length≤1000): ∃v st',Jf 99 [.agg [iZ (m.tr:Nat),ka,kn]] st v st'∧ ∃ka2,v=.agg [iZ (m.tr:Nat),ka2,kn]∧ED st st' 1 ka2 (bC m.neg.acc)∧Qt st st':=by
 have hac:=hA.cell;refine J7 Tryz.func99 Tryz.ntmps99 fun T K=>?_;have M:=Mem.start hf;refine Qb 0 K M fun _ K=>?_;refine Jv K M rfl (Qa rfl (Qa hA.cell (Qa hnc Qz))) Q8 fun c1 _ _ K M=>?_;refine au 4 K M ?_;intro c2 _ _ K _ M;refine p1 K (Qg rfl (M.load (k:=1) rfl (Qd Q7 rfl))) fun _ K=>p1 K (WJ VV rfl ((Fi rfl rfl rfl).trans ((JB rfl hnc rfl).trans rfl))) fun _ K=>?_;refine au 1 K M ?_;intro c3 _ _ K _ M;refine QU (k:=0) K M rfl rfl rfl Q9 rfl (Qa rfl (Qa rfl (Qa hnc Qz))) rfl fun _ M=>?_;refine Qb 1 K M fun _ K=>?_;refine QX (fun mm1 T st9=> ∃(i:Nat) (k2:AV) (A:U9),mm1=m.acc.length-i∧QS [(1,.ptr c1 0 0),(2,.ptr c2 0 0),(3,.ptr c3 0 0),(4,iN i)] T∧Mem st.h.get st.n [] st9 ((c3,0,[iZ (m.tr:Nat),k2,kn])::(c2,0,[iZ 0,.nils,.nils])::(c1,0,[iZ (m.tr:Nat),ka,kn])::(A++[]))∧i≤m.acc.length∧Acc st.n 1 A k2 (bC ((m.acc.take i).map (!·)))) (fun mm1 T st9 hI=>?_) _ _ _ ⟨0,.nils,[],rfl,(K.sub rfl),M.less (.refl _),(Nat.zero_le _),.none⟩;obtain⟨i,k2,A,rfl,K,M,hi,hA2⟩:=hI;refine Qb 3 K M fun _ K=>?_;refine p1 K (Q5 Yb rfl rfl (hA.len.trans (congrArg some (Up _)))) fun _ K=>?_;refine Qb 1 K M fun _ K=>?_;refine Jt K rfl (fun h14=>?_) fun h14=>?_
 ·refine Qb 0 K M fun _ K=>?_;refine QA (l:=[(0,0),(1,0),(2,0),(3,0),(4,0),(5,0),(6,0),(7,0),(8,0),(9,0),(10,0),(11,0)]) (by kernel_rfl) ?_;refine Jo 5 K M fun _ K=>?_;obtain⟨y22,hi22⟩:=Uy m.acc i Qc;refine dI rfl rfl (Jg.mem M hA Q4) (Ww hi22) K J4 J6 rfl rfl rfl fun _ _ _ _ K=>?_;refine q1 rfl K (Ny rfl) fun _ K=>?_;refine Xp rfl K M J3 Vk rfl rfl rfl rfl rfl fun c25 _ _ K M=>?_;refine Bx (k2:=0) (L:=[(c25,0,[.bool (!(y22))]),(c3,0,[iZ (m.tr:Nat),k2,kn]),(c2,0,[iZ 0,.nils,.nils]),(c1,0,[iZ (m.tr:Nat),ka,kn])]) (B:=[]) rfl K M hA2 J3 rfl rfl rfl rfl (by rw[Up,List.length_map,List.length_take];omega) rfl fun ks26 A26 _ _ K hA26 M=>?_;refine Jo 1 K M fun _ K=>?_;refine Ze (k:=1) rfl K M rfl rfl rfl UG (hA26.cell) rfl fun _ M=>?_;refine QF ?_;show W _ _ _ _ _ _ _;refine Qb 3 K M fun _ K=>?_;exact⟨_,Qc,i+1,ks26,A26,rfl,(K.sub rfl),M.less (.cons _ (.refl _)),Qc,(by rw[List.take_add_one,hi22,List.map_append,XZ];exact hA26)⟩
 refine QK ?_;show W _ _ _ _ _ _ _;refine Qb 1 K M fun _ K=>?_;refine QU (k:=1) K M rfl rfl rfl Q9 rfl (Qa rfl (Qa hA2.cell (Qa hnc Qz))) rfl fun _ M=>?_;refine Qb 0 K M ?_;rw[List.take_of_length_le Qc]at hA2;exact⟨_,rfl,Mem.BS (L:=[(c3,0,[iZ (m.tr:Nat),k2,kn]),(c2,0,[iZ (m.tr:Nat),k2,kn]),(c1,0,[iZ (m.tr:Nat),ka,kn])]) (B:=[]) M hA2,M.qt⟩

theorem GQ(hf:Qi st): ∃v st',Jf 100 [] st v st'∧ ∃mp,v=.ptr mp 0 0∧st.n≤mp∧Qx st'.h.get mp 0 [iZ ((1099511627776:Nat):Int),.bool false]∧Qt st st':=by
 refine J7 Tryz.func100 Tryz.ntmps100 fun T K=>?_;have M:=Mem.start hf;refine Qb 1 K M fun _ K=>?_;obtain⟨v1,st1,ev1,mp,rfl,hmp,hmr,q1⟩:=Dt M.fresh 1099511627776;refine p1 K (Qf rfl ev1) fun _ K=>?_;have hle0:=M.le;have hmr0:=hmr;refine p1 K (JV rfl) fun _ K=>XT ?_;show W _ _ _ _ _ _ _;refine Jx ⟨.inr rfl,_,iR K rfl,?_⟩;exact⟨mp,rfl,hmp,hmr,q1⟩

theorem ML(hf:Qi st)(hr:Qx st.h.get cp 0 [.ptr mp 0 0,.bool E,.bool O]){a:Au}(wf:Zp a){ls:List (List AV)}(hac:Qr ka=true)(hnc:Qr kn=true)(hAN:KW st cp a ka kn ls): ∃v st',Jf 98 [.ptr cp 0 0,.agg [iZ (a.tr:Nat),ka,kn],iZ (((0:Nat):Int))] st v st'∧ ∃t2 ka2 kn2 E2 O2 F m,v=.agg [iZ t2,ka2,kn2]∧Qr ka2=true∧Qr kn2=true∧Qx st'.h.get cp 0 [.ptr mp 0 0,.bool E2,.bool O2]∧ZP st st' F∧((E2||O2)=false→(E||O)=false∧JR a m∧Xk st'.h.get F m ka2 kn2∧t2=((m.tr:Nat):Int))∧UQ (fun c=>c=cp) st st':=by
 have B:=Qk.HF hf hr;refine J7 Tryz.func98 Tryz.ntmps98 fun T K=>?_;have M:=B.mem;refine au 4 K M ?_;intro c4 c6 _ _ K _ M;refine Uq K rfl (fun h9=>?_) fun h9=>?_
 ·have hb9:=h9
  replace h9: ¬(((0:Nat):Int)=0):=by first|exact of_decide_eq_false h9|exact yF h9|simpa using h9
  exfalso;omega
 have hb9:=h9
 replace h9:(((0:Nat):Int)=0):=by first|exact of_decide_eq_true h9|exact yT h9|simpa using h9
 refine Qb 1 K M fun _ K=>?_;replace B:=B.step M;obtain⟨v15,st15,ev15,cl9,l9,m,hcls,htr9,hmd,nau,q15⟩:=uw B.fresh wf (hAN _ fun c h1 h2=>B.J9 c h1 h2).1 (hAN _ fun c h1 h2=>B.J9 c h1 h2).2;refine p1 K (Qf rfl ev15) fun _ K=>?_;obtain⟨kam,km,Fm,rfl,hau,hnf,hkam,hkm⟩:=nau.fU q15.fresh;have hlm:=GL wf hcls htr9 hmd
 have hkal:YD kam=some m.acc.length:=by obtain⟨_,H⟩:=hau;rw[(H _ fun _ _=>rfl).1.len,Up]
 replace B:=B.new (o:=FT Fm false m kam km) q15 (fun _=>hau) hnf;have M:=B.mem;refine au 1 K M ?_;intro c7 _ _ K _ M;refine QU (k:=0) K M rfl rfl rfl Q9 rfl (Qa rfl (Qa hkam (Qa hkm Qz))) rfl fun _ M=>?_;refine Qb 2 K M fun _ K=>?_;refine p1 K (Q5 Yb rfl rfl hkal) fun _ K=>?_;refine Qb 1 K M fun _ K=>?_;refine Jt K rfl (fun h19=>?_) fun h19=>?_
 ·refine au 5 K M ?_;intro _ _ K _ M;refine QU (k:=1) K M rfl rfl rfl Q9 rfl (Qa rfl (Qa hkam (Qa hkm Qz))) rfl fun _ M=>?_;refine Qb 0 K M ?_;replace B:=B.step M;refine⟨_,kam,km,E,_,Fm,m,rfl,hkam,hkm,M.Ya (k:=3) rfl,fun c hc=>⟨(B.L7 (k:=0) rfl c hc).resolve_right fun e=>B.djM _ (List.mem_cons_self ..) cp 0 _ (List.mem_of_getElem? (i:=3) rfl) (e▸hc),B.Y3 (k:=0) rfl c hc⟩,fun he=>?_,B.JM⟩;refine⟨?_,hlm,B.at_ (k:=0) rfl rfl,rfl⟩
  first|exact he|(simp at he)
 refine Qb 1 K M fun _ K=>?_;refine QU (k:=1) K M rfl rfl rfl Q9 rfl (Qa rfl (Qa hkam (Qa hkm Qz))) rfl fun _ M=>?_;refine Qb 0 K M ?_;replace B:=B.step M;refine⟨_,kam,km,E,_,Fm,m,rfl,hkam,hkm,M.Ya (k:=3) rfl,fun c hc=>⟨(B.L7 (k:=0) rfl c hc).resolve_right fun e=>B.djM _ (List.mem_cons_self ..) cp 0 _ (List.mem_of_getElem? (i:=3) rfl) (e▸hc),B.Y3 (k:=0) rfl c hc⟩,fun he=>?_,B.JM⟩;refine⟨?_,hlm,B.at_ (k:=0) rfl rfl,rfl⟩
 first|exact he|(simp at he)

theorem MK(hf:Qi st)(hr:Qx st.h.get cp 0 [.ptr mp 0 0,.bool E,.bool O]){t:Int}(hac:Qr ka=true)(hnc:Qr kn=true): ∃v st',Jf 98 [.ptr cp 0 0,.agg [iZ t,ka,kn],iZ (((8:Nat):Int))] st v st'∧v=.agg [iZ 0,.nils,.nils]∧Qx st'.h.get cp 0 [.ptr mp 0 0,.bool true,.bool O]∧UQ (fun c=>c=cp) st st':=by
 have B:=Qk.HF hf hr;refine J7 Tryz.func98 Tryz.ntmps98 fun T K=>?_;have M:=B.mem;refine au 4 K M ?_;intro c4 c6 _ _ K _ M;refine Uq K rfl (fun h9=>?_) fun h9=>?_
 ·have hb9:=h9
  replace h9: ¬(((8:Nat):Int)=0):=by first|exact of_decide_eq_false h9|exact yF h9|simpa using h9
  refine au 6 K M ?_;intro _ _ K _ M;refine Qb 0 K M ?_;replace B:=B.step M;exact⟨rfl,M.Ya (k:=2) rfl,B.JM⟩
 have hb9:=h9
 replace h9:(((8:Nat):Int)=0):=by first|exact of_decide_eq_true h9|exact yT h9|simpa using h9
 exfalso;omega

theorem IU(hf:Qi st){eb:Bool}{ev:Int}(hev:ev=if eb then 8 else 0)(hr:Qx st.h.get cp 0 [.ptr mp 0 0,.bool E,.bool O]){a:Au}{t:Int}(hac:Qr ka=true)(hnc:Qr kn=true)(hok:eb=false→t=((a.tr:Nat):Int)∧Zp a∧ ∃ls,KW st cp a ka kn ls): ∃v st',Jf 98 [.ptr cp 0 0,.agg [.int .i64 t,ka,kn],.int .i64 ev] st v st'∧ ∃t2 ka2 kn2 E2 O2 F m,v=.agg [.int .i64 t2,ka2,kn2]∧Qr ka2=true∧Qr kn2=true∧Qx st'.h.get cp 0 [.ptr mp 0 0,.bool E2,.bool O2]∧ZP st st' F∧((E2||O2)=false→eb=false∧(E||O)=false∧JR a m∧Xk st'.h.get F m ka2 kn2∧t2=((m.tr:Nat):Int))∧UQ (fun c=>c=cp) st st':=by
 subst hev
 cases eb with
 |false=>
  obtain⟨rfl,wf,ls,hAN⟩:=hok rfl;obtain⟨v,st',h1,t2,ka2,kn2,E2,O2,F,m,h2,h3,h4,h5,h6,h7,h8⟩:=ML hf hr wf hac hnc hAN;exact⟨v,st',h1,t2,ka2,kn2,E2,O2,F,m,h2,h3,h4,h5,h6,fun h=>⟨rfl,h7 h⟩,h8⟩
 |true=>
  obtain⟨v,st',h1,h2,h3,h4⟩:=MK hf hr (t:=t) hac hnc;exact⟨v,st',h1,0,.nils,.nils,true,O,ZQ,a,h2,rfl,rfl,h3,fun c hc=>hc.elim,fun h=>by simp at h,h4⟩
end
end Go.Proofs.YtiknomepbklibaaGreatDoor
