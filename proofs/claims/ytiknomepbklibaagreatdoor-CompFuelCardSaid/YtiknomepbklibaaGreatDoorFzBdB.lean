/-
  What hangs on letters: made.
-/
import Derived.Test.YtiknomepbklibaaGreatDoorFzBdA
namespace Go.Proofs.YtiknomepbklibaaGreatDoor
open Go Go.RowKit
set_option maxHeartbeats 8000000
set_option linter.unusedVariables false
set_option linter.unusedSimpArgs false
set_option linter.unnecessarySimpa false
set_option maxRecDepth 100000
variable {F:Fp} {S:UG} {T Tn a c sp t:Nat} {fa fc:List AV} {fo:FuncId} {kl kr:AV} {l row:List Int} {st:St} {x:Int}

theorem JE(h:T≤6):2^T≤64:=Nat.le_trans (Nat.pow_le_pow_right QE h) QE
theorem Tz(S:UG)(i:Nat)(h:c<2^T):(WQ T S i).take (c+1)=(WQ T S i).take c++[Y6 S i c]:=by
 rw[List.take_add_one,CA S i h];rfl
def Mi(t a c:Nat):Nat:=a+c/2^t *2^t
theorem zI(h:c.testBit t=false):Mi (t+1) a c=Mi t a c:=by
 unfold Mi
 have h1:c/2^t % 2=0:=by
  rw[Nat.testBit_eq_decide_div_mod_eq,decide_eq_false_iff_not]at h;omega
 have h2:c/2^(t+1)=c/2^t/2:=by rw[Nat.pow_succ,Nat.div_div_eq_div_mul]
 rw[h2,Nat.pow_succ]
 have h3:c/2^t/2 *2=c/2^t:=by omega
 rw[Nat.mul_comm (2^t) 2,←Nat.mul_assoc,h3]
theorem jP(h:c.testBit t=true):Mi (t+1) (a+2^t) c=Mi t a c:=by
 unfold Mi
 have h1:c/2^t % 2=1:=by
  rw[Nat.testBit_eq_decide_div_mod_eq,decide_eq_true_eq]at h;exact h
 have h2:c/2^(t+1)=c/2^t/2:=by rw[Nat.pow_succ,Nat.div_div_eq_div_mul]
 rw[h2,Nat.pow_succ]
 have h3:c/2^t/2 *2+1=c/2^t:=by omega
 rw[Nat.mul_comm (2^t) 2,←Nat.mul_assoc]
 conv=>rhs;rw[←h3]
 rw[Nat.succ_mul];omega
theorem vo(h:a<2^t):a|||2^t=a+2^t:=by
 have:=Nat.two_pow_add_eq_or_of_lt h 1;rw[Nat.mul_one]at this;rw[Nat.or_comm,←this,Nat.add_comm]
theorem LC{P:Program}{G:Env}{K:List (Nat×AV)}{t yt:TypeId}{x y:Operand}{b e:Nat}(he:a|||b=e)(hx:QX G K x=some (.int .i64 (a:Nat)))(hy:QX G K y=some (.int .i64 (b:Nat)))(ha:a≤9223372036854775807)(hb:b≤9223372036854775807):U3 P G K (.binOp .or t x y yt) st (.int .i64 (e:Nat)) st:=he▸qT hx hy ha hb
theorem VQ.more{S':UG}{k k' i:Nat}(h:VQ T S k S' i)(hk:k≤k'):VQ T S k' S' i:=⟨h.wf,h.pre,h.lt,Nat.le_trans h.len Qe⟩
theorem xc(hf:Qj st)(hS:Zs st F sp Tn S)(h6:Tn≤6)(wf:Xg Tn S){i:Nat}(hi:i<S.length): ∃v st',Ev Tryz.prog Q4 49 [.ptr sp 0 0,iN i] st v st'∧ ∃kr,v=kr∧Em st st' 1 kr (zC (WQ Tn S i))∧Qt st st':=by
 have hp:=JE h6;refine JF Tryz.func49 Tryz.ntmps49 fun T K=>?_;have M:=Mem.start hf;refine Qc 3 K M ?_;intro _ K;obtain⟨v9,st9,ev9,rfl,q9⟩:=NI M.fresh (hS.q M.qt) hi;refine p1 K (Qh rfl ev9) fun _ K=>?_;replace M:=M.quiet q9;refine Qc 4 K M ?_;intro _ K;refine oQ K M (El M.fresh (hS.q M.qt)) rfl rfl fun _ _ K M=>?_;refine p1 K (Y4 (n:=Tn) rfl rfl Qe) fun _ K=>?_;refine Qc 1 K M ?_;intro _ K;refine Jc (fun mm1 T st9=> ∃(c:Nat) (kr:AV) (A:U9),mm1=2^Tn-c∧QY [(0,.ptr sp 0 0),(1,iN i),(4,.nils),(5,kr),(13,iZ (2^Tn:Nat)),(14,iN c)] T∧Mem st.h.get st.n [] st9 (A++[])∧Acc st.n 1 A kr (zC ((WQ Tn S i).take c))∧c≤2^Tn) (fun mm1 T st9 hI=>?_) _ _ _ ⟨0,.nils,[],rfl,(K.sub rfl),M.less (.refl _),(by rw[List.take_zero];exact .none),(Nat.zero_le _)⟩;obtain⟨c,kr,A,rfl,K,M,hA,hc⟩:=hI;refine Qc 1 K M ?_;intro _ K;refine JP K rfl (fun h15=>?_) fun h15=>?_
 ·refine Qc 6 K M ?_;intro _ K;refine oQ K M (uX (c:=c) M.fresh (hS.q M.qt) h6 wf hi Qe) rfl rfl fun _ _ K M=>?_;refine au 1 K M ?_;intro c22 _ _ K _ M;refine RJ (k2:=0) (L:=[(c22,0,[iZ ((Y6 S i c))])]) (A:=A) (B:=[]) K M hA QM rfl rfl rfl rfl (by rw[Qn,List.length_take,Ly];have:=Nat.min_le_right c (2^Tn);omega) rfl fun ks23 A23 _ _ K hA23 M=>?_;refine Qc 3 K M ?_;intro _ K;exact⟨_,Qe,c+1,ks23,A23,rfl,(K.sub rfl),M.less (.cons _ (.refl _)),(by rw[Tz S i Qe,JV];exact hA23),Qe⟩
 refine QT ?_;show W _ _ _ _ _ _ _;refine Qc 2 K M ?_;refine⟨_,rfl,?_,M.qt⟩;rw[List.take_of_length_le (by rw[Ly];omega)]at hA;have h:=Mem.Bh (L:=[]) (A:=A) (B:=[]) M hA
 simpa using h

theorem Nf(hf:Qj st)(h1:0≤x)(h2:x≤1099511627776): ∃v st',Ev Tryz.prog Q4 95 [iZ x] st v st'∧v=.bool true∧Qt st st':=by
 refine JF Tryz.func95 Tryz.ntmps95 fun T K=>?_;have M:=Mem.start hf;refine Qc 3 K M ?_;intro _ K;refine Um K (Qg rfl) rfl (fun _ e5 K=>?_) fun _ e5 K=>?_
 ·exfalso;omega
 refine Qc 4 K M ?_;exact⟨congrArg AV.bool (decide_eq_true h2),M.qt⟩

theorem SX(hf:Qj st)(h6:Tn≤6): ∃v st',Ev Tryz.prog Q4 70 [iN Tn] st v st'∧ ∃sp F,v=.ptr sp 0 0∧Zs st' F sp Tn []∧ZJ st st' F∧Qt st st':=by
 have B:=Qk.start hf;refine JF Tryz.func70 Tryz.ntmps70 fun T K=>?_;have M:=B.mem;refine Qc 3 K M ?_;intro _ K;refine Um K (Qg rfl) rfl (fun _ e5 K=>?_) fun _ e5 K=>?_
 ·refine Qc 3 K M ?_;intro _ K;refine JP K rfl (fun h8=>?_) fun h8=>?_
  ·exfalso;omega
  refine Qc 1 K M ?_;intro _ K;replace B:=B.step M;refine Wn E5 K B rfl fun c10 _ _ K B=>?_;have M:=B.mem;refine au 3 K M ?_;intro c12 _ _ K _ M;refine Qc 0 K M ?_;obtain⟨F,B'⟩:=Qk.Ru (M:=[]) (Os:=[]) (A:=[]) (S:=[]) (B.step M) .none;exact⟨_,F,rfl,B'.IK (k:=0) rfl,B'.jz (k:=0) rfl,B'.qt⟩
 exfalso;omega

theorem uV(hf:Qj st)(hS:Zs st F sp Tn S)(hl:S.length<1000000000)(nd:Bn): ∃v st',Ev Tryz.prog Q4 150 [.ptr sp 0 0,(E5 nd)] st v st'∧ ∃i S',v=iN i∧BU S nd i S'∧XM st st' F sp Tn S':=by
 have B0:=Qk.UM (o:=X2 F sp Tn S) hf hS.at_ hS.hi;obtain⟨ks,cm,A,B,hA⟩:=B0.wV;have hbl:Y8 ks=some S.length:=hA.len.trans (congrArg some (List.length_map ..));refine JF Tryz.func150 Tryz.ntmps150 fun T K=>?_;have M:=B.mem;replace M:=Mem.cast (M':=((sp,0,[iN Tn,ks,.mp cm])::(A++[]))) M QA;replace B:=B.cast (show _=((sp,0,[iN Tn,ks,.mp cm])::(A++[])) by simp);replace M:=B.mem;refine Qc 6 K M ?_;intro _ K;refine p1 K (Wz jL ((B.step M).at_ (k:=0) rfl) rfl rfl) fun _ K=>?_;refine Qc 7 K M ?_;intro _ K;refine Qq (K.QI rfl) (fun h17=>?_) (fun h17=>?_)
 ·have hb17:=h17
  replace h17:((Yk (V3 0 S) nd).isSome)=false:=by simpa using h17
  refine QC ?_
  have hnone:Yk (V3 0 S) nd=none:=by cases hq:Yk (V3 0 S) nd with|none=>rfl|some x=>rw[hq]at h17;cases h17
  refine Qc 4 K M ?_;intro _ K;refine p1 K (Q8 Xr rfl rfl hbl) fun _ K=>?_;refine Qc 7 K M ?_;intro _ K;refine Xy K M VV E7 rfl ((J9 rfl (DN nd) rfl).trans rfl) (Qb (DN nd) Q7) rfl rfl fun c29 _ _ K M=>?_;refine YG (k2:=0) (L:=[(c29,0,[(E5 nd)]),(sp,0,[iN Tn,ks,.mp cm])]) (A:=A) (B:=[]) K M hA VV rfl rfl rfl (by rw[List.length_map];omega) rfl fun ks30 A30 _ _ K hA30 hN30 M=>?_;simp only[List.append_assoc,List.cons_append,List.nil_append,List.set_cons_zero,List.set_cons_succ]at M;refine Qc 2 K M ?_;intro _ K;refine Jh (k:=1) K M rfl rfl rfl Fb (hA30.cell) rfl fun _ M=>?_;refine Qc 6 K M ?_;intro _ K;replace B:=B.step M;refine Hb (j:=0) (a:=nd) K B rfl jL rfl rfl rfl rfl hnone fun _ B=>?_;have M:=B.mem;refine Qc 2 K M ?_;refine⟨S.length,S++[nd],rfl,.app (zE hnone),?_⟩;have hA':=hA30;rw[Bl]at hA'
  have e:V3 0 S++[(nd,iZ (S.length:Nat))]=V3 0 (S++[nd]):=by rw[Gn,Nat.zero_add]
  obtain⟨F',B'⟩:=Qk.Ru (M:=[]) (Os:=[]) (A:=A30) (S:=S++[nd]) (by rw[←e];exact(B.step M).less (.cons _ (.refl _))) hA';exact B'.LA
 have hb17:=h17
 replace h17:((Yk (V3 0 S) nd).isSome)=true:=by simpa using h17
 refine Qc 2 K M ?_
 obtain⟨v0,hv0⟩: ∃x,Yk (V3 0 S) nd=some x:=by cases hq:Yk (V3 0 S) nd with|none=>rw[hq]at h17;cases h17|some x=>exact⟨x,rfl⟩
 obtain⟨i,hi,rfl⟩:=zD hv0;refine⟨i,S,by rw[hv0];rfl,.inl ⟨hi,rfl⟩,?_⟩;obtain⟨F',B'⟩:=Qk.Ru (M:=[]) (Os:=[]) (A:=A) (S:=S) (by simpa using B.step M) hA;exact B'.LA

theorem DR(hf:Qj st)(hS:Zs st F sp Tn S)(wf:Xg Tn S)(hl:S.length<1000000000)(h1:0≤x)(h2:x≤1099511627776): ∃v st',Ev Tryz.prog Q4 125 [.ptr sp 0 0,iZ x] st v st'∧ ∃i S',v=iN i∧XM st st' F sp Tn S'∧VQ Tn S 1 S' i∧lvl Tn S' i=Tn∧ ∀c,Y6 S' i c=x:=by
 have B:=Qk.UM (o:=X2 F sp Tn S) hf hS.at_ hS.hi;refine JF Tryz.func125 Tryz.ntmps125 fun T K=>?_;have M:=B.mem;refine Qc 2 K M ?_;intro _ K;refine p1 K (Yp ZL rfl rfl) fun _ K=>?_;refine Qc 2 K M ?_;intro _ K;obtain⟨v9,st9,ev9,rfl,q9⟩:=Nf M.fresh h1 h2;refine pg K rfl rfl (Qh rfl ev9) fun _ K=>?_;replace M:=M.quiet q9;refine Qc 6 K M ?_;intro _ K;refine p1 K (CQ rfl (Bi _)) fun _ K=>?_;replace B:=B.step M;obtain⟨v16,st16,ev16,i16,S16,rfl,hput,hout⟩:=uV M.fresh (B.IK (k:=0) rfl) Qe (.leaf x);refine p1 K (Qh rfl ev16) fun _ K=>?_;obtain⟨F',B⟩:=B.VO hout;have M:=B.mem;refine Qc 1 K M ?_;obtain⟨h3,h4,h5⟩:=zF hput wf ⟨h1,h2⟩;exact⟨_,_,rfl,(B.step M).LA,h3,h4,h5⟩

theorem uT(hf:Qj st)(hS:Zs st F sp Tn S)(wf:Xg Tn S)(hlen:S.length<1000000000){l h:Nat}(ht:t<Tn)(hl:l<S.length)(hh:h<S.length)(h1:t<lvl Tn S l)(h2:t<lvl Tn S h): ∃v st',Ev Tryz.prog Q4 126 [.ptr sp 0 0,iN t,iN l,iN h] st v st'∧ ∃i S',v=iN i∧XM st st' F sp Tn S'∧VQ Tn S 1 S' i∧t≤lvl Tn S' i∧ ∀c,Y6 S' i c=if c.testBit t then Y6 S h c else Y6 S l c:=by
 have B:=Qk.UM (o:=X2 F sp Tn S) hf hS.at_ hS.hi;refine JF Tryz.func126 Tryz.ntmps126 fun T K=>?_;have M:=B.mem;refine Qc 3 K M ?_;intro _ K;refine Um K (Qg rfl) rfl (fun _ e12 K=>?_) fun _ e12 K=>?_
 ·refine Qc 2 K M ?_;intro _ K;replace B:=B.step M;obtain⟨v15,st15,ev15,rfl,q15⟩:=El M.fresh (B.IK (k:=0) rfl);refine pg K rfl rfl (Qh rfl ev15) fun _ K=>?_;replace B:=B.quiet q15;have M:=B.mem;refine Qc 2 K M ?_;intro _ K;refine Um K (Qg rfl) rfl (fun _ e18 K=>?_) fun _ e18 K=>?_
  ·refine Qc 3 K M ?_;intro _ K;replace B:=B.step M;obtain⟨v22,st22,ev22,rfl,q22⟩:=Gx M.fresh (B.IK (k:=0) rfl) hl t ht;refine pg K rfl rfl (Qh rfl ev22) fun _ K=>?_;replace B:=B.quiet q22;have M:=B.mem;refine Qc 2 K M ?_;intro _ K;refine oB K (Qg rfl) rfl fun b25 _ e25 K=>?_;cases b25
   ·replace e25:(t<lvl Tn S l):=by simpa using e25
    refine Qc 3 K M ?_;intro _ K;replace B:=B.step M;obtain⟨v29,st29,ev29,rfl,q29⟩:=Gx M.fresh (B.IK (k:=0) rfl) hh t ht;refine pg K rfl rfl (Qh rfl ev29) fun _ K=>?_;replace B:=B.quiet q29;have M:=B.mem;refine Qc 3 K M ?_;intro _ K;refine xP K rfl (fun h9=>?_) fun h9=>?_
    ·exfalso;omega
    refine Qc 4 K M ?_;intro _ K;refine JP K rfl (fun h32=>?_) fun h32=>?_
    ·refine Qc 2 K M ?_;obtain⟨h3,h4,h5⟩:=xz (.inl ⟨by omega,rfl,rfl⟩) wf ht hl hh h1 h2;exact⟨_,_,rfl,(B.step M).LA,h3,h4,h5⟩
    refine Qc 5 K M ?_;intro _ K;refine p1 K (CQ rfl (Bj _)) fun _ K=>?_;replace B:=B.step M;obtain⟨v43,st43,ev43,i43,S43,rfl,hput,hout⟩:=uV M.fresh (B.IK (k:=0) rfl) Qe (.fork t l h);refine p1 K (Qh rfl ev43) fun _ K=>?_;obtain⟨F',B⟩:=B.VO hout;have M:=B.mem;refine Qc 1 K M ?_;obtain⟨h3,h4,h5⟩:=xz (.inr ⟨by omega,hput⟩) wf ht hl hh h1 h2;exact⟨_,_,rfl,(B.step M).LA,h3,h4,h5⟩
   replace e25: ¬(t<lvl Tn S l):=by simpa using e25
   exfalso;omega
  exfalso;omega
 exfalso;omega

theorem Ml(hf:Qj st)(hl:Ji st.h.get [] 1 (zC l) kl)(hb:(l.length:Int)≤9223372036854775807){p:Int→Bool}(hC: ∀(x:Int),x∈l→ ∀(st1:St),Qt st st1→ ∃v st',Ev Tryz.prog Q4 fo (fa++([iZ x]++fc)) st1 v st'∧v=.bool (p x)∧Qt st1 st'): ∃v st',Ev Tryz.prog Q4 68 [kl,(AV.fn fo fa fc)] st v st'∧v=iZ (Is p l 0)∧Qt st st':=by
 refine JF Tryz.func68 Tryz.ntmps68 fun T K=>?_;have M:=Mem.start hf;refine Qc 2 K M ?_;intro _ K;refine p1 K (Q8 Jp rfl rfl (hl.len.trans (congrArg some (Qn _)))) fun _ K=>?_;refine Qc 1 K M ?_;intro _ K;refine Jc (fun mm1 T st9=> ∃(i:Nat),mm1=l.length-i∧QY [(0,kl),(1,(AV.fn fo fa fc)),(7,iZ (l.length:Nat)),(8,iN i)] T∧Mem st.h.get st.n [] st9 []∧i≤l.length∧Is p l 0=Is p (l.drop i) i) (fun mm1 T st9 hI=>?_) _ _ _ ⟨0,rfl,(K.sub rfl),M.less (.refl _),(Nat.zero_le _),rfl⟩;obtain⟨i,rfl,K,M,hi,hx⟩:=hI;refine Qc 1 K M ?_;intro _ K;refine JP K rfl (fun h9=>?_) fun h9=>?_
 ·refine Qc 5 K M ?_;intro _ K;obtain⟨y14,hi14⟩:=U8 l i Qe;obtain⟨x14,m14,f14,q14,_,la14,lo14,lp14⟩:=(Ji.mem M hl QA).load (i:=i) (cs:=_) (Jr hi14);refine p1 K (Qa (j:=i) Qw (congrArg some q14) rfl (by rw[Qn];omega)) fun _ K=>p1 K (Qd rfl (lo14 _ 0 _ Qr rfl)) fun _ K=>?_;obtain⟨v16,st16,ev16,rfl,q16⟩:=hC y14 (List.mem_of_getElem? hi14) _ M.qt;refine p1 K (ZP rfl rfl ev16) fun _ K=>?_;replace M:=M.quiet q16;refine Un ?_;show W _ _ _ _ _ _ _;refine Qq (K.QI rfl) (fun h16=>?_) (fun h16=>?_)
  ·have hb16:=h16;refine Qc 2 K M ?_;exact⟨by rw[hx,AE hi14,if_pos h16],M.qt⟩
  have hb16:=h16;refine Qc 2 K M ?_;intro _ K;exact⟨_,Qe,i+1,rfl,(K.sub rfl),M.less (.refl _),Qe,(by rw[hx,AE hi14,if_neg (by rw[h16];decide)])⟩
 refine QT ?_;show W _ _ _ _ _ _ _;refine Qc 1 K M ?_;exact⟨by rw[hx,Dr Qe],M.qt⟩

theorem HJ(hf:Qj st)(hl:Ji st.h.get [] 1 (zC l) kl)(hb:(l.length:Int)≤9223372036854775807){p:Int→Bool}(hC: ∀(x:Int),x∈l→ ∀(st1:St),Qt st st1→ ∃v st',Ev Tryz.prog Q4 fo (fa++([iZ x]++fc)) st1 v st'∧v=.bool (p x)∧Qt st1 st'): ∃v st',Ev Tryz.prog Q4 42 [kl,(AV.fn fo fa fc)] st v st'∧v=.bool (l.any p)∧Qt st st':=by
 refine JF Tryz.func42 Tryz.ntmps42 fun T K=>?_;have M:=Mem.start hf;refine Qc 3 K M ?_;intro _ K;refine oQ K M (Ml M.fresh (Ji.mem M hl QA) hb (fun x hx st1 q=>hC x hx st1 (M.qt.trans q))) rfl rfl fun _ _ K M=>?_;refine Qc 2 K M ?_;exact⟨by rw[←Ds p l 0],M.qt⟩

theorem HI(hf:Qj st)(hl:Ji st.h.get [] 1 (zC l) kl)(hb:(l.length:Int)≤9223372036854775807)(hC: ∀(x:Int),x∈l→ ∀(st1:St),Qt st st1→ ∃v st',Ev Tryz.prog Q4 fo (fa++([.int .i64 x]++fc)) st1 v st'∧v=.bool false∧Qt st1 st'): ∃v st',Ev Tryz.prog Q4 42 [kl,.fn fo fa fc] st v st'∧v=.bool false∧Qt st st':=by
 obtain⟨v,st',h1,h2,h3⟩:=HJ (p:=fun _=>false) hf hl hb hC;exact⟨v,st',h1,by rw[h2];simp,h3⟩

theorem wz(hf:Qj st)(h1:0≤x)(h2:x≤1099511627776): ∃v st',Ev Tryz.prog Q4 94 [iZ x] st v st'∧v=.bool false∧Qt st st':=by
 refine JF Tryz.func94 Tryz.ntmps94 fun T K=>?_;have M:=Mem.start hf;refine Qc 2 K M ?_;intro _ K;refine oQ K M (Nf M.fresh h1 h2) rfl rfl fun _ _ K M=>?_;refine Qc 2 K M ?_;exact⟨rfl,M.qt⟩

theorem uL(hf:Qj st)(hS:Zs st F sp Tn S)(h6:Tn≤6)(wf:Xg Tn S)(ht:t≤Tn)(ha:a<2^t)(hlen0:S.length+(2^(Tn-t+1)-1)≤1000000000)(hR:Ji st.h.get [] 1 (zC row) kr)(hoff: ∀c m o n y,kr=.sl c m o n y→ ¬F c)(hrl:row.length=2^Tn)(hrv: ∀x∈row,0≤x∧x≤1099511627776)(ih:t<Tn→ ∀(st:St) (F:Fp) (S:UG) (a:Nat),Qj st→Zs st F sp Tn S→Xg Tn S→S.length+(2^(Tn-(t+1)+1)-1)≤1000000000→a<2^(t+1)→Ji st.h.get [] 1 (zC row) kr→(∀c m o n y,kr=.sl c m o n y→ ¬F c)→ ∃v st',Ev Tryz.prog Q4 96 [.ptr sp 0 0,kr,iZ (t+1:Nat),iN a] st v st'∧ ∃i S',v=iN i∧XM st st' F sp Tn S'∧VQ Tn S (2^(Tn-(t+1)+1)-1) S' i∧t+1≤lvl Tn S' i∧ ∀c,c<2^Tn→row[Mi (t+1) a c]? =some (Y6 S' i c)): ∃v st',Ev Tryz.prog Q4 96 [.ptr sp 0 0,kr,iN t,iN a] st v st'∧ ∃i S',v=iN i∧XM st st' F sp Tn S'∧VQ Tn S (2^(Tn-t+1)-1) S' i∧t≤lvl Tn S' i∧ ∀c,c<2^Tn→row[Mi t a c]? =some (Y6 S' i c):=by
 have B:=Qk.UM (o:=X2 F sp Tn S) hf hS.at_ hS.hi;obtain⟨ks,cm,hrow,hrd,hlen,hbn⟩:=hS.at_.rd;have hpt:=JE (show t≤6 by omega)
 have hp2:2^(t+1)=2 *2^t:=by rw[Nat.pow_succ,Nat.mul_comm]
 have hq0:1≤2^(Tn-t):=Nat.one_le_two_pow
 have hq1:2^(Tn-t+1)=2 *2^(Tn-t):=by rw[Nat.pow_succ,Nat.mul_comm]
 refine JF Tryz.func96 Tryz.ntmps96 fun T K=>?_;have M:=B.mem;refine Qc 5 K M ?_;intro _ K;refine p1 K (Qd rfl (Qz (M.JG QA hrow.Jd) (Qf Qr rfl))) fun _ K=>?_;refine Qc 1 K M ?_;intro _ K;refine JP K rfl (fun h15=>?_) fun h15=>?_
 ·refine QC ?_
  have htt:t=Tn:=by omega
  have harl:a<row.length:=by rw[hrl,←htt];exact ha
  refine Qc 3 K M ?_;intro _ K;obtain⟨y19,hi19⟩:=U8 row a Qe;obtain⟨x19,m19,f19,q19,_,la19,lo19,lp19⟩:=((B.step M).rd hf hR hoff).load (i:=a) (cs:=_) (Jr hi19);refine p1 K (Qa (j:=a) Qw (congrArg some q19) rfl (by rw[Qn];omega)) fun _ K=>p1 K (Qd rfl (lo19 _ 0 _ Qr rfl)) fun _ K=>?_;replace B:=B.step M;obtain⟨hv1,hv2⟩:=hrv _ (List.mem_of_getElem? hi19);obtain⟨v21,st21,ev21,i1,S1,rfl,hout1,m1,lv1,hev1⟩:=DR B.fresh (B.IK (k:=0) rfl) wf Qe hv1 hv2;refine p1 K (Qh rfl ev21) fun _ K=>?_;obtain⟨F1,B⟩:=B.VO hout1;have M:=B.mem;refine Qc 1 K M ?_
  have e0: ∀c,c<2^Tn→Mi t a c=a:=fun c hc=>by
   unfold Mi;rw[htt,Nat.div_eq_of_lt hc,Nat.zero_mul,Nat.add_zero]
  exact⟨_,_,rfl,(B.step M).LA,m1.more Qe,by omega,fun c hc=>by rw[e0 c hc,hi19,hev1]⟩
 refine Qc 0 K M ?_;intro _ K
 have ht1:t<Tn:=by omega
 have hq2:Tn-(t+1)+1=Tn-t:=by omega
 have hq3:2^(Tn-(t+1)+1)=2^(Tn-t):=by rw[hq2]
 refine Qc 5 K M ?_;intro _ K;replace B:=B.step M;obtain⟨v27,st27,ev27,i1,S1,rfl,hout1,m1,lv1,hev1⟩:=ih ht1 _ _ _ a B.fresh (B.IK (k:=0) rfl) wf (by skip;omega) Qe (B.rd hf hR hoff) (B.off (k:=0) rfl hf hR hoff);refine p1 K (Qh rfl ev27) fun _ K=>?_;obtain⟨F1,B⟩:=B.VO hout1;have M:=B.mem;refine Qc 1 K M ?_;intro _ K;have hor:a|||2^t=a+2^t:=vo ha;refine Qc 9 K M ?_;intro _ K;refine p1 K (Y4 (n:=t) rfl rfl Qe) fun _ K=>p1 K (LC (a:=a) (b:=2^t) hor rfl rfl Qe Qe) fun _ K=>?_;replace B:=B.step M;obtain⟨v39,st39,ev39,i2,S2,rfl,hout2,m2,lv2,hev2⟩:=ih ht1 _ _ _ (a+2^t) B.fresh (B.IK (k:=0) rfl) m1.wf (by have:=m1.len;omega) Qe (B.rd hf hR hoff) (B.off (k:=0) rfl hf hR hoff);refine p1 K (Qh rfl ev39) fun _ K=>?_;obtain⟨F2,B⟩:=B.VO hout2;have M:=B.mem;replace B:=B.step M;have hl1:=m1.len;have hl2:=m2.len;have hq2:=Va (T:=Tn) m2.pre m1.lt;have hq3:=m2.pre.length_le;have hlt1:=m1.lt;obtain⟨v40,st40,ev40,i3,S3,rfl,hout3,m3,lv3,hev3⟩:=uT B.fresh (B.IK (k:=0) rfl) m2.wf Qe ht1 (show i1<_ by omega) m2.lt Qe Qe;refine p1 K (Qh rfl ev40) fun _ K=>?_;obtain⟨F3,B⟩:=B.VO hout3;have M:=B.mem;refine Qc 1 K M ?_;refine⟨_,_,rfl,(B.step M).LA,⟨m3.wf,m1.pre.trans (m2.pre.trans m3.pre),m3.lt,by have:=m3.len;omega⟩,lv3,fun c hc=>?_⟩;rw[hev3]
 cases hb:c.testBit t with
 |true=>rw[if_pos rfl,←jP hb];exact hev2 c hc
 |false=>rw[if_neg QE,Zm m1.wf m2.pre m1.lt,←zI hb];exact hev1 c hc

theorem xa(h6:Tn≤6)(hrl:row.length=2^Tn)(hrv: ∀x∈row,0≤x∧x≤1099511627776): ∀k t,t+k=Tn→ ∀(st:St) (F:Fp) (S:UG) (a:Nat),Qj st→Zs st F sp Tn S→Xg Tn S→S.length+(2^(Tn-t+1)-1)≤1000000000→a<2^t→Ji st.h.get [] 1 (zC row) kr→(∀c m o n y,kr=.sl c m o n y→ ¬F c)→ ∃v st',Ev Tryz.prog Q4 96 [.ptr sp 0 0,kr,.int .i64 (t:Nat),.int .i64 (a:Nat)] st v st'∧ ∃i S',v=.int .i64 (i:Nat)∧XM st st' F sp Tn S'∧VQ Tn S (2^(Tn-t+1)-1) S' i∧t≤lvl Tn S' i∧ ∀c,c<2^Tn→row[Mi t a c]? =some (Y6 S' i c):=by
 intro k
 induction k with
 |zero=>intro t ht st F S a hf hS wf hl ha hR hoff;exact uL hf hS h6 wf Qe ha hl hR hoff hrl hrv fun h=>by omega
 |succ k ih=>intro t ht st F S a hf hS wf hl ha hR hoff;exact uL hf hS h6 wf Qe ha hl hR hoff hrl hrv fun h=>ih (t+1) Qe

theorem uS(hf:Qj st)(hS:Zs st F sp Tn S)(h6:Tn≤6)(wf:Xg Tn S)(hlen0:S.length+(2^(Tn-0+1)-1)≤1000000000)(hR:Ji st.h.get [] 1 (zC row) kr)(hoff: ∀c m o n y,kr=.sl c m o n y→ ¬F c)(hrl:row.length=2^Tn)(hrv: ∀x∈row,0≤x∧x≤1099511627776): ∃v st',Ev Tryz.prog Q4 71 [.ptr sp 0 0,kr] st v st'∧ ∃i S',v=iN i∧XM st st' F sp Tn S'∧VQ Tn S (2^(Tn+1)-1) S' i∧ ∀c,c<2^Tn→row[c]? =some (Y6 S' i c):=by
 have B:=Qk.UM (o:=X2 F sp Tn S) hf hS.at_ hS.hi;obtain⟨ks,cm,hrow,hrd,hlen,hbn⟩:=hS.at_.rd;have hpt:=JE h6
 have hrb:(row.length:Int)≤9223372036854775807:=by omega
 refine JF Tryz.func71 Tryz.ntmps71 fun T K=>?_;have M:=B.mem;refine Qc 2 K M ?_;intro _ K;refine p1 K (Yp ZL rfl rfl) fun _ K=>?_;refine Qc 2 K M ?_;intro _ K;refine pg K rfl rfl (Q8 Jp rfl rfl (hR.len.trans (congrArg some (Qn _)))) fun _ K=>?_;refine Qc 3 K M ?_;intro _ K;refine pg K rfl rfl (Qd rfl (Qz (M.JG QA hrow.Jd) (Qf Qr rfl))) fun _ K=>pg K rfl rfl (Y4 (n:=Tn) rfl rfl Qe) fun _ K=>?_;refine Qc 2 K M ?_;intro _ K;refine oB K (Qg rfl) rfl fun b17 _ e17 K=>?_;cases b17
 ·replace e17:(((row.length:Nat):Int)=((2^Tn:Nat):Int)):=by simpa using e17
  refine Qc 1 K M ?_;intro _ K;replace B:=B.step M;obtain⟨v19,st19,ev19,rfl,q19⟩:=HI (fo:=94) (fa:=[]) (fc:=[]) B.fresh (B.rd hf hR hoff) hrb (fun x hx st1 q=>wz q.fresh (hrv x hx).1 (hrv x hx).2);refine pg K rfl rfl (Qh rfl ev19) fun _ K=>?_;replace B:=B.quiet q19;have M:=B.mem;refine Qc 4 K M ?_;intro _ K;replace B:=B.step M;have hlo:=hlen0;obtain⟨v23,st23,ev23,i1,S1,rfl,hout1,m1,lv1,hev1⟩:=xa h6 hrl hrv Tn 0 (Nat.zero_add _) _ _ _ 0 B.fresh (B.IK (k:=0) rfl) wf hlen0 QE (B.rd hf hR hoff) (B.off (k:=0) rfl hf hR hoff);refine p1 K (Qh rfl ev23) fun _ K=>?_;obtain⟨F1,B⟩:=B.VO hout1;have M:=B.mem;refine Qc 1 K M ?_;refine⟨_,_,rfl,(B.step M).LA,m1,fun c hc=>?_⟩;have:=hev1 c hc;rw[show Mi 0 0 c=c by simp[Mi]]at this;exact this
 replace e17: ¬(((row.length:Nat):Int)=((2^Tn:Nat):Int)):=by simpa using e17
 exfalso;omega
end Go.Proofs.YtiknomepbklibaaGreatDoor
