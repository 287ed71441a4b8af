/-
  What hangs on letters: made.
-/
import Derived.Test.YtildagdnomiahaaGreatDoorQgBdA
namespace Go.Proofs.YtildagdnomiahaaGreatDoor
open Go Go.RowKit
set_option maxHeartbeats 8000000
set_option linter.unusedVariables false
set_option linter.unusedSimpArgs false
set_option linter.unnecessarySimpa false
set_option maxRecDepth 100000
variable {F:Fp} {S:JW} {T Tn a c sp t:Nat} {fa fc:List AV} {fo:FuncId} {kl kr:AV} {l row:List Int} {st:St} {x:Int}

theorem JD(h:T≤6):2^T≤64:=Nat.le_trans (Nat.pow_le_pow_right Q8 h) Q8
theorem RS(S:JW)(i:Nat)(h:c<2^T):(VQ T S i).take (c+1)=(VQ T S i).take c++[UF S i c]:=by
 rw[List.take_add_one,Bg S i h];rfl
def S8(t a c:Nat):Nat:=a+c/2^t *2^t
theorem yk(h:c.testBit t=false):S8 (t+1) a c=S8 t a c:=by
 unfold S8
 have h1:c/2^t % 2=0:=by
  rw[Nat.testBit_eq_decide_div_mod_eq,decide_eq_false_iff_not]at h;omega
 have h2:c/2^(t+1)=c/2^t/2:=by rw[Nat.pow_succ,Nat.div_div_eq_div_mul]
 rw[h2,Nat.pow_succ]
 have h3:c/2^t/2 *2=c/2^t:=by omega
 rw[Nat.mul_comm (2^t) 2,←Nat.mul_assoc,h3]
theorem qc(h:c.testBit t=true):S8 (t+1) (a+2^t) c=S8 t a c:=by
 unfold S8
 have h1:c/2^t % 2=1:=by
  rw[Nat.testBit_eq_decide_div_mod_eq,decide_eq_true_eq]at h;exact h
 have h2:c/2^(t+1)=c/2^t/2:=by rw[Nat.pow_succ,Nat.div_div_eq_div_mul]
 rw[h2,Nat.pow_succ]
 have h3:c/2^t/2 *2+1=c/2^t:=by omega
 rw[Nat.mul_comm (2^t) 2,←Nat.mul_assoc]
 conv=>rhs;rw[←h3]
 rw[Nat.succ_mul];omega
theorem xe(h:a<2^t):a|||2^t=a+2^t:=by
 have:=Nat.two_pow_add_eq_or_of_lt h 1;rw[Nat.mul_one]at this;rw[Nat.or_comm,←this,Nat.add_comm]
theorem Dz{P:Program}{G:Env}{K:List (Nat×AV)}{t yt:TypeId}{x y:Operand}{b e:Nat}(he:a|||b=e)(hx:QD G K x=some (.int .i64 (a:Nat)))(hy:QD G K y=some (.int .i64 (b:Nat)))(ha:a≤9223372036854775807)(hb:b≤9223372036854775807):Uf P G K (.binOp .or t x y yt) st (.int .i64 (e:Nat)) st:=he▸zU hx hy ha hb
theorem XT.more{S':JW}{k k' i:Nat}(h:XT T S k S' i)(hk:k≤k'):XT T S k' S' i:=⟨h.wf,h.pre,h.lt,Nat.le_trans h.len Qe⟩
theorem yE(hf:Qg st)(hS:Y0 st F sp Tn S)(h6:Tn≤6)(wf:Zo Tn S){i:Nat}(hi:i<S.length): ∃v st',QR 213 [.ptr sp 0 0,iN i] st v st'∧ ∃kr,v=kr∧F9 st st' 1 kr (zC (VQ Tn S i))∧Qt st st':=by
 have hp:=JD h6;refine Jq Tryz.func213 Tryz.ntmps213 fun T K=>?_;have M:=Mem.start hf;refine Qb 3 K M fun _ K=>?_;obtain⟨v9,st9,ev9,rfl,q9⟩:=Ly M.fresh (hS.q M.qt) hi;refine p1 K (Qf rfl ev9) fun _ K=>?_;replace M:=M.quiet q9;refine Qb 4 K M fun _ K=>?_;refine oQ K M (Wi M.fresh (hS.q M.qt)) rfl rfl fun _ _ K M=>?_;refine p1 K (Z1 (n:=Tn) rfl rfl Qe) fun _ K=>?_;refine Qb 1 K M fun _ K=>?_;refine QV (fun mm1 T st9=> ∃(c:Nat) (kr:AV) (A:Uq),mm1=2^Tn-c∧QE [(0,.ptr sp 0 0),(1,iN i),(4,.nils),(5,kr),(13,iZ (2^Tn:Nat)),(14,iN c)] T∧Mem st.h.get st.n [] st9 (A++[])∧Acc st.n 1 A kr (zC ((VQ Tn S i).take c))∧c≤2^Tn) (fun mm1 T st9 hI=>?_) _ _ _ ⟨0,.nils,[],rfl,(K.sub rfl),M.less (.refl _),(by rw[List.take_zero];exact .none),(Nat.zero_le _)⟩;obtain⟨c,kr,A,rfl,K,M,hA,hc⟩:=hI;refine Qb 1 K M fun _ K=>?_;refine Uk K rfl (fun h15=>?_) fun h15=>?_
 ·refine Qb 6 K M fun _ K=>?_;refine oQ K M (ji (c:=c) M.fresh (hS.q M.qt) h6 wf hi Qe) rfl rfl fun _ _ K M=>?_;refine au 1 K M ?_;intro c22 _ _ K _ M;refine jG (k2:=0) (L:=[(c22,0,[iZ ((UF S i c))])]) (B:=[]) K M hA QT rfl rfl rfl rfl (by rw[Q0,List.length_take,Ke];have:=Nat.min_le_right c (2^Tn);omega) rfl fun ks23 A23 _ _ K hA23 M=>?_;refine Qb 3 K M fun _ K=>?_;exact⟨_,Qe,c+1,ks23,A23,rfl,(K.sub rfl),M.less (.cons _ (.refl _)),(by rw[RS S i Qe,Us];exact hA23),Qe⟩
 refine QO ?_;show W _ _ _ _ _ _ _;refine Qb 2 K M ?_;refine⟨_,rfl,?_,M.qt⟩;rw[List.take_of_length_le (by rw[Ke];omega)]at hA;have h:=Mem.uS (L:=[]) (B:=[]) M hA
 simpa using h

theorem KD(hf:Qg st)(h1:0≤x)(h2:x≤1099511627776): ∃v st',QR 285 [iZ x] st v st'∧v=.bool true∧Qt st st':=by
 refine Jq Tryz.func285 Tryz.ntmps285 fun T K=>?_;have M:=Mem.start hf;refine Qb 3 K M fun _ K=>?_;refine Uv K rfl (fun _ e5 K=>?_) fun _ e5 K=>?_
 ·exfalso;omega
 refine Qb 4 K M ?_;exact⟨congrArg AV.bool (decide_eq_true h2),M.qt⟩

theorem R1(hf:Qg st)(h6:Tn≤6): ∃v st',QR 254 [iN Tn] st v st'∧ ∃sp F,v=.ptr sp 0 0∧Y0 st' F sp Tn []∧XE st st' F∧Qt st st':=by
 have B:=Qj.start hf;refine Jq Tryz.func254 Tryz.ntmps254 fun T K=>?_;have M:=B.mem;refine Qb 3 K M fun _ K=>?_;refine Uv K rfl (fun _ e5 K=>?_) fun _ e5 K=>?_
 ·refine Qb 3 K M fun _ K=>?_;refine Uk K rfl (fun h8=>?_) fun h8=>?_
  ·exfalso;omega
  refine Qb 1 K M fun _ K=>?_;replace B:=B.step M;refine Vm Wv K B rfl fun c10 _ _ K B=>?_;have M:=B.mem;refine au 3 K M ?_;intro c12 _ _ K _ M;refine Qb 0 K M ?_;obtain⟨F,B'⟩:=Qj.Pk (M:=[]) (Os:=[]) (A:=[]) (S:=[]) (B.step M) .none;exact⟨_,F,rfl,B'.H6 (k:=0) rfl,B'.ya (k:=0) rfl,B'.qt⟩
 exfalso;omega

theorem jh(hf:Qg st)(hS:Y0 st F sp Tn S)(hl:S.length<1000000000)(nd:Bn): ∃v st',QR 324 [.ptr sp 0 0,(Wv nd)] st v st'∧ ∃i S',v=iN i∧G4 S nd i S'∧ZW st st' F sp Tn S':=by
 have B0:=Qj.UR (o:=ZC F sp Tn S) hf hS.at_ hS.hi;obtain⟨ks,cm,A,B,hA⟩:=B0.wg;have hbl:JU ks=some S.length:=hA.len.trans (congrArg some (List.length_map ..));refine Jq Tryz.func324 Tryz.ntmps324 fun T K=>?_;have M:=B.mem;replace M:=Mem.cast (M':=((sp,0,[iN Tn,ks,.mp cm])::(A++[]))) M Qx;replace B:=B.cast (show _=((sp,0,[iN Tn,ks,.mp cm])::(A++[])) by simp);replace M:=B.mem;refine Qb 6 K M fun _ K=>?_;refine p1 K (V2 MY ((B.step M).at_ (k:=0) rfl) rfl rfl) fun _ K=>?_;refine Qb 7 K M fun _ K=>?_;refine YU K rfl (fun h17=>?_) fun h17=>?_
 ·have hb17:=h17
  replace h17:((Uz (X8 0 S) nd).isSome)=false:=by simpa using h17
  refine Z7 ?_
  have hnone:Uz (X8 0 S) nd=none:=by cases hq:Uz (X8 0 S) nd with|none=>rfl|some x=>rw[hq]at h17;cases h17
  refine Qb 4 K M fun _ K=>?_;refine p1 K (Q4 Z0 rfl rfl hbl) fun _ K=>?_;refine Qb 7 K M fun _ K=>?_;refine Vn K M XX Wx rfl ((Yr rfl (C8 nd) rfl).trans rfl) (Qa (C8 nd) Q9) rfl rfl fun c29 _ _ K M=>?_;refine Ej (k2:=0) (L:=[(c29,0,[(Wv nd)]),(sp,0,[iN Tn,ks,.mp cm])]) (B:=[]) K M hA XX rfl rfl rfl (by rw[List.length_map];omega) rfl fun ks30 A30 _ _ K hA30 hN30 M=>?_;simp only[Vk]at M;refine Qb 2 K M fun _ K=>?_;refine J6 (k:=1) K M rfl rfl rfl EI (hA30.cell) rfl fun _ M=>?_;refine Qb 6 K M fun _ K=>?_;replace B:=B.step M;refine AG (j:=0) (a:=nd) K B rfl MY rfl rfl rfl rfl hnone fun _ B=>?_;have M:=B.mem;refine Qb 2 K M ?_;refine⟨S.length,S++[nd],rfl,.app (yc hnone),?_⟩;have hA':=hA30;rw[OS]at hA'
  have e:X8 0 S++[(nd,iZ (S.length:Nat))]=X8 0 (S++[nd]):=by rw[NR,Nat.zero_add]
  obtain⟨F',B'⟩:=Qj.Pk (M:=[]) (Os:=[]) (A:=A30) (S:=S++[nd]) (by rw[←e];exact(B.step M).less (.cons _ (.refl _))) hA';exact B'.Kk
 have hb17:=h17
 replace h17:((Uz (X8 0 S) nd).isSome)=true:=by simpa using h17
 refine Qb 2 K M ?_
 obtain⟨v0,hv0⟩: ∃x,Uz (X8 0 S) nd=some x:=by cases hq:Uz (X8 0 S) nd with|none=>rw[hq]at h17;cases h17|some x=>exact⟨x,rfl⟩
 obtain⟨i,hi,rfl⟩:=yb hv0;refine⟨i,S,by rw[hv0];rfl,.inl ⟨hi,rfl⟩,?_⟩;obtain⟨F',B'⟩:=Qj.Pk (M:=[]) (Os:=[]) (A:=A) (S:=S) (by simpa using B.step M) hA;exact B'.Kk

theorem CC(hf:Qg st)(hS:Y0 st F sp Tn S)(wf:Zo Tn S)(hl:S.length<1000000000)(h1:0≤x)(h2:x≤1099511627776): ∃v st',QR 304 [.ptr sp 0 0,iZ x] st v st'∧ ∃i S',v=iN i∧ZW st st' F sp Tn S'∧XT Tn S 1 S' i∧lvl Tn S' i=Tn∧ ∀c,UF S' i c=x:=by
 have B:=Qj.UR (o:=ZC F sp Tn S) hf hS.at_ hS.hi;refine Jq Tryz.func304 Tryz.ntmps304 fun T K=>?_;have M:=B.mem;refine Qb 2 K M fun _ K=>?_;refine p1 K (U0 YV rfl rfl) fun _ K=>?_;refine Qb 2 K M fun _ K=>?_;obtain⟨v9,st9,ev9,rfl,q9⟩:=KD M.fresh h1 h2;refine pg K rfl rfl (Qf rfl ev9) fun _ K=>?_;replace M:=M.quiet q9;refine Qb 6 K M fun _ K=>?_;refine p1 K (Km rfl (OO _)) fun _ K=>?_;replace B:=B.step M;obtain⟨v16,st16,ev16,i16,S16,rfl,hput,hout⟩:=jh M.fresh (B.H6 (k:=0) rfl) Qe (.leaf x);refine p1 K (Qf rfl ev16) fun _ K=>?_;obtain⟨F',B⟩:=B.XP hout;have M:=B.mem;refine Qb 1 K M ?_;obtain⟨h3,h4,h5⟩:=yd hput wf ⟨h1,h2⟩;exact⟨_,_,rfl,(B.step M).Kk,h3,h4,h5⟩

theorem jf(hf:Qg st)(hS:Y0 st F sp Tn S)(wf:Zo Tn S)(hlen:S.length<1000000000){l h:Nat}(ht:t<Tn)(hl:l<S.length)(hh:h<S.length)(h1:t<lvl Tn S l)(h2:t<lvl Tn S h): ∃v st',QR 305 [.ptr sp 0 0,iN t,iN l,iN h] st v st'∧ ∃i S',v=iN i∧ZW st st' F sp Tn S'∧XT Tn S 1 S' i∧t≤lvl Tn S' i∧ ∀c,UF S' i c=if c.testBit t then UF S h c else UF S l c:=by
 have B:=Qj.UR (o:=ZC F sp Tn S) hf hS.at_ hS.hi;refine Jq Tryz.func305 Tryz.ntmps305 fun T K=>?_;have M:=B.mem;refine Qb 3 K M fun _ K=>?_;refine Uv K rfl (fun _ e12 K=>?_) fun _ e12 K=>?_
 ·refine Qb 2 K M fun _ K=>?_;replace B:=B.step M;obtain⟨v15,st15,ev15,rfl,q15⟩:=Wi M.fresh (B.H6 (k:=0) rfl);refine pg K rfl rfl (Qf rfl ev15) fun _ K=>?_;replace B:=B.quiet q15;have M:=B.mem;refine Qb 2 K M fun _ K=>?_;refine Uv K rfl (fun _ e18 K=>?_) fun _ e18 K=>?_
  ·refine Qb 3 K M fun _ K=>?_;replace B:=B.step M;obtain⟨v22,st22,ev22,rfl,q22⟩:=Oc M.fresh (B.H6 (k:=0) rfl) hl t ht;refine pg K rfl rfl (Qf rfl ev22) fun _ K=>?_;replace B:=B.quiet q22;have M:=B.mem;refine Qb 2 K M fun _ K=>?_;refine oB K (QA rfl) rfl fun b25 _ e25 K=>?_;cases b25
   ·replace e25:(t<lvl Tn S l):=by simpa using e25
    refine Qb 3 K M fun _ K=>?_;replace B:=B.step M;obtain⟨v29,st29,ev29,rfl,q29⟩:=Oc M.fresh (B.H6 (k:=0) rfl) hh t ht;refine pg K rfl rfl (Qf rfl ev29) fun _ K=>?_;replace B:=B.quiet q29;have M:=B.mem;refine Qb 3 K M fun _ K=>?_;refine wO K rfl (fun h9=>?_) fun h9=>?_
    ·exfalso;omega
    refine Qb 4 K M fun _ K=>?_;refine Uk K rfl (fun h32=>?_) fun h32=>?_
    ·refine Qb 2 K M ?_;obtain⟨h3,h4,h5⟩:=zf (.inl ⟨by omega,rfl,rfl⟩) wf ht hl hh h1 h2;exact⟨_,_,rfl,(B.step M).Kk,h3,h4,h5⟩
    refine Qb 5 K M fun _ K=>?_;refine p1 K (Km rfl (OP _)) fun _ K=>?_;replace B:=B.step M;obtain⟨v43,st43,ev43,i43,S43,rfl,hput,hout⟩:=jh M.fresh (B.H6 (k:=0) rfl) Qe (.fork t l h);refine p1 K (Qf rfl ev43) fun _ K=>?_;obtain⟨F',B⟩:=B.XP hout;have M:=B.mem;refine Qb 1 K M ?_;obtain⟨h3,h4,h5⟩:=zf (.inr ⟨by omega,hput⟩) wf ht hl hh h1 h2;exact⟨_,_,rfl,(B.step M).Kk,h3,h4,h5⟩
   replace e25: ¬(t<lvl Tn S l):=by simpa using e25
   exfalso;omega
  exfalso;omega
 exfalso;omega

theorem NJ(hf:Qg st)(hl:Je st.h.get [] 1 (zC l) kl)(hb:(l.length:Int)≤9223372036854775807){p:Int→Bool}(hC: ∀(x:Int),x∈l→ ∀(st1:St),Qt st st1→ ∃v st',QR fo (fa++([iZ x]++fc)) st1 v st'∧v=.bool (p x)∧Qt st1 st'): ∃v st',QR 162 [kl,(AV.fn fo fa fc)] st v st'∧v=iZ (E9 p l 0)∧Qt st st':=by
 refine Jq Tryz.func162 Tryz.ntmps162 fun T K=>?_;have M:=Mem.start hf;refine Qb 2 K M fun _ K=>?_;refine p1 K (Q4 Js rfl rfl (hl.len.trans (congrArg some (Q0 _)))) fun _ K=>?_;refine Qb 1 K M fun _ K=>?_;refine QV (fun mm1 T st9=> ∃(i:Nat),mm1=l.length-i∧QE [(0,kl),(1,(AV.fn fo fa fc)),(7,iZ (l.length:Nat)),(8,iN i)] T∧Mem st.h.get st.n [] st9 []∧i≤l.length∧E9 p l 0=E9 p (l.drop i) i) (fun mm1 T st9 hI=>?_) _ _ _ ⟨0,rfl,(K.sub rfl),M.less (.refl _),(Nat.zero_le _),rfl⟩;obtain⟨i,rfl,K,M,hi,hx⟩:=hI;refine Qb 1 K M fun _ K=>?_;refine Uk K rfl (fun h9=>?_) fun h9=>?_
 ·refine Qb 5 K M fun _ K=>?_;obtain⟨y14,hi14⟩:=YP l i Qe;refine oI (Je.mem M hl Qx) (JA hi14) K QG Qq rfl rfl rfl fun _ _ _ _ K=>?_;obtain⟨v16,st16,ev16,rfl,q16⟩:=hC y14 (List.mem_of_getElem? hi14) _ M.qt;refine p1 K (YZ rfl rfl ev16) fun _ K=>?_;replace M:=M.quiet q16;refine Qb 0 K M fun _ K=>?_;refine YU K rfl (fun h16=>?_) fun h16=>?_
  ·have hb16:=h16;refine Qb 2 K M ?_;exact⟨by rw[hx,Es hi14,if_pos h16],M.qt⟩
  have hb16:=h16;refine Qb 2 K M fun _ K=>?_;exact⟨_,Qe,i+1,rfl,(K.sub rfl),M.less (.refl _),Qe,(by rw[hx,Es hi14,if_neg (by rw[h16];decide)])⟩
 refine QO ?_;show W _ _ _ _ _ _ _;refine Qb 1 K M ?_;exact⟨by rw[hx,BR Qe],M.qt⟩

theorem Xj(hf:Qg st)(hl:Je st.h.get [] 1 (zC l) kl)(hb:(l.length:Int)≤9223372036854775807){p:Int→Bool}(hC: ∀(x:Int),x∈l→ ∀(st1:St),Qt st st1→ ∃v st',QR fo (fa++([iZ x]++fc)) st1 v st'∧v=.bool (p x)∧Qt st1 st'): ∃v st',QR 210 [kl,(AV.fn fo fa fc)] st v st'∧v=.bool (l.any p)∧Qt st st':=by
 refine Jq Tryz.func210 Tryz.ntmps210 fun T K=>?_;have M:=Mem.start hf;refine Qb 3 K M fun _ K=>?_;refine oQ K M (NJ M.fresh (Je.mem M hl Qx) hb (fun x hx st1 q=>hC x hx st1 (M.qt.trans q))) rfl rfl fun _ _ K M=>?_;refine Qb 2 K M ?_;exact⟨by rw[←BS p l 0],M.qt⟩

theorem F5(hf:Qg st)(hl:Je st.h.get [] 1 (zC l) kl)(hb:(l.length:Int)≤9223372036854775807)(hC: ∀(x:Int),x∈l→ ∀(st1:St),Qt st st1→ ∃v st',QR fo (fa++([.int .i64 x]++fc)) st1 v st'∧v=.bool false∧Qt st1 st'): ∃v st',QR 210 [kl,.fn fo fa fc] st v st'∧v=.bool false∧Qt st st':=by
 obtain⟨v,st',h1,h2,h3⟩:=Xj (p:=fun _=>false) hf hl hb hC;exact⟨v,st',h1,by rw[h2];simp,h3⟩

theorem vk(hf:Qg st)(h1:0≤x)(h2:x≤1099511627776): ∃v st',QR 284 [iZ x] st v st'∧v=.bool false∧Qt st st':=by
 refine Jq Tryz.func284 Tryz.ntmps284 fun T K=>?_;have M:=Mem.start hf;refine Qb 2 K M fun _ K=>?_;refine oQ K M (KD M.fresh h1 h2) rfl rfl fun _ _ K M=>?_;refine Qb 2 K M ?_;exact⟨rfl,M.qt⟩

theorem qX(hf:Qg st)(hS:Y0 st F sp Tn S)(h6:Tn≤6)(wf:Zo Tn S)(ht:t≤Tn)(ha:a<2^t)(hlen0:S.length+(2^(Tn-t+1)-1)≤1000000000)(hR:Je st.h.get [] 1 (zC row) kr)(hoff: ∀c m o n y,kr=.sl c m o n y→ ¬F c)(hrl:row.length=2^Tn)(hrv: ∀x∈row,0≤x∧x≤1099511627776)(ih:t<Tn→ ∀(st:St) (F:Fp) (S:JW) (a:Nat),Qg st→Y0 st F sp Tn S→Zo Tn S→S.length+(2^(Tn-(t+1)+1)-1)≤1000000000→a<2^(t+1)→Je st.h.get [] 1 (zC row) kr→(∀c m o n y,kr=.sl c m o n y→ ¬F c)→ ∃v st',QR 286 [.ptr sp 0 0,kr,iZ (t+1:Nat),iN a] st v st'∧ ∃i S',v=iN i∧ZW st st' F sp Tn S'∧XT Tn S (2^(Tn-(t+1)+1)-1) S' i∧t+1≤lvl Tn S' i∧ ∀c,c<2^Tn→row[S8 (t+1) a c]? =some (UF S' i c)): ∃v st',QR 286 [.ptr sp 0 0,kr,iN t,iN a] st v st'∧ ∃i S',v=iN i∧ZW st st' F sp Tn S'∧XT Tn S (2^(Tn-t+1)-1) S' i∧t≤lvl Tn S' i∧ ∀c,c<2^Tn→row[S8 t a c]? =some (UF S' i c):=by
 have B:=Qj.UR (o:=ZC F sp Tn S) hf hS.at_ hS.hi;obtain⟨ks,cm,hrow,hrd,hlen,hbn⟩:=hS.at_.rd;have hpt:=JD (show t≤6 by omega)
 have hp2:2^(t+1)=2 *2^t:=by rw[Nat.pow_succ,Nat.mul_comm]
 have hq0:1≤2^(Tn-t):=Nat.one_le_two_pow
 have hq1:2^(Tn-t+1)=2 *2^(Tn-t):=by rw[Nat.pow_succ,Nat.mul_comm]
 refine Jq Tryz.func286 Tryz.ntmps286 fun T K=>?_;have M:=B.mem;refine Qb 5 K M fun _ K=>?_;refine p1 K (Qh rfl (Qp (M.QY Qx hrow.QF) (Qc Qq rfl))) fun _ K=>?_;refine Qb 1 K M fun _ K=>?_;refine Uk K rfl (fun h15=>?_) fun h15=>?_
 ·refine Z7 ?_
  have htt:t=Tn:=by omega
  have harl:a<row.length:=by rw[hrl,←htt];exact ha
  refine Qb 3 K M fun _ K=>?_;obtain⟨y19,hi19⟩:=YP row a Qe;refine oI ((B.step M).rd hf hR hoff) (JA hi19) K QG Qq rfl rfl rfl fun _ _ _ _ K=>?_;replace B:=B.step M;obtain⟨hv1,hv2⟩:=hrv _ (List.mem_of_getElem? hi19);obtain⟨v21,st21,ev21,i1,S1,rfl,hout1,m1,lv1,hev1⟩:=CC B.fresh (B.H6 (k:=0) rfl) wf Qe hv1 hv2;refine p1 K (Qf rfl ev21) fun _ K=>?_;obtain⟨F1,B⟩:=B.XP hout1;have M:=B.mem;refine Qb 1 K M ?_
  have e0: ∀c,c<2^Tn→S8 t a c=a:=fun c hc=>by
   unfold S8;rw[htt,Nat.div_eq_of_lt hc,Nat.zero_mul,Nat.add_zero]
  exact⟨_,_,rfl,(B.step M).Kk,m1.more Qe,by omega,fun c hc=>by rw[e0 c hc,hi19,hev1]⟩
 refine Qb 0 K M fun _ K=>?_
 have ht1:t<Tn:=by omega
 have hq2:Tn-(t+1)+1=Tn-t:=by omega
 have hq3:2^(Tn-(t+1)+1)=2^(Tn-t):=by rw[hq2]
 refine Qb 5 K M fun _ K=>?_;replace B:=B.step M;obtain⟨v27,st27,ev27,i1,S1,rfl,hout1,m1,lv1,hev1⟩:=ih ht1 _ _ _ a B.fresh (B.H6 (k:=0) rfl) wf (by skip;omega) Qe (B.rd hf hR hoff) (B.off (k:=0) rfl hf hR hoff);refine p1 K (Qf rfl ev27) fun _ K=>?_;obtain⟨F1,B⟩:=B.XP hout1;have M:=B.mem;refine Qb 1 K M fun _ K=>?_;have hor:a|||2^t=a+2^t:=xe ha;refine Qb 9 K M fun _ K=>?_;refine p1 K (Z1 (n:=t) rfl rfl Qe) fun _ K=>p1 K (Dz (a:=a) (b:=2^t) hor rfl rfl Qe Qe) fun _ K=>?_;replace B:=B.step M;obtain⟨v39,st39,ev39,i2,S2,rfl,hout2,m2,lv2,hev2⟩:=ih ht1 _ _ _ (a+2^t) B.fresh (B.H6 (k:=0) rfl) m1.wf (by have:=m1.len;omega) Qe (B.rd hf hR hoff) (B.off (k:=0) rfl hf hR hoff);refine p1 K (Qf rfl ev39) fun _ K=>?_;obtain⟨F2,B⟩:=B.XP hout2;have M:=B.mem;replace B:=B.step M;have hl1:=m1.len;have hl2:=m2.len;have hq2:=Xg (T:=Tn) m2.pre m1.lt;have hq3:=m2.pre.length_le;have hlt1:=m1.lt;obtain⟨v40,st40,ev40,i3,S3,rfl,hout3,m3,lv3,hev3⟩:=jf B.fresh (B.H6 (k:=0) rfl) m2.wf Qe ht1 (show i1<_ by omega) m2.lt Qe Qe;refine p1 K (Qf rfl ev40) fun _ K=>?_;obtain⟨F3,B⟩:=B.XP hout3;have M:=B.mem;refine Qb 1 K M ?_;refine⟨_,_,rfl,(B.step M).Kk,⟨m3.wf,m1.pre.trans (m2.pre.trans m3.pre),m3.lt,by have:=m3.len;omega⟩,lv3,fun c hc=>?_⟩;rw[hev3]
 cases hb:c.testBit t with
 |true=>rw[if_pos rfl,←qc hb];exact hev2 c hc
 |false=>rw[if_neg Q8,Yx m1.wf m2.pre m1.lt,←yk hb];exact hev1 c hc

theorem yC(h6:Tn≤6)(hrl:row.length=2^Tn)(hrv: ∀x∈row,0≤x∧x≤1099511627776): ∀k t,t+k=Tn→ ∀(st:St) (F:Fp) (S:JW) (a:Nat),Qg st→Y0 st F sp Tn S→Zo Tn S→S.length+(2^(Tn-t+1)-1)≤1000000000→a<2^t→Je st.h.get [] 1 (zC row) kr→(∀c m o n y,kr=.sl c m o n y→ ¬F c)→ ∃v st',QR 286 [.ptr sp 0 0,kr,.int .i64 (t:Nat),.int .i64 (a:Nat)] st v st'∧ ∃i S',v=.int .i64 (i:Nat)∧ZW st st' F sp Tn S'∧XT Tn S (2^(Tn-t+1)-1) S' i∧t≤lvl Tn S' i∧ ∀c,c<2^Tn→row[S8 t a c]? =some (UF S' i c):=by
 intro k
 induction k with
 |zero=>intro t ht st F S a hf hS wf hl ha hR hoff;exact qX hf hS h6 wf Qe ha hl hR hoff hrl hrv fun h=>by omega
 |succ k ih=>intro t ht st F S a hf hS wf hl ha hR hoff;exact qX hf hS h6 wf Qe ha hl hR hoff hrl hrv fun h=>ih (t+1) Qe

theorem je(hf:Qg st)(hS:Y0 st F sp Tn S)(h6:Tn≤6)(wf:Zo Tn S)(hlen0:S.length+(2^(Tn-0+1)-1)≤1000000000)(hR:Je st.h.get [] 1 (zC row) kr)(hoff: ∀c m o n y,kr=.sl c m o n y→ ¬F c)(hrl:row.length=2^Tn)(hrv: ∀x∈row,0≤x∧x≤1099511627776): ∃v st',QR 255 [.ptr sp 0 0,kr] st v st'∧ ∃i S',v=iN i∧ZW st st' F sp Tn S'∧XT Tn S (2^(Tn+1)-1) S' i∧ ∀c,c<2^Tn→row[c]? =some (UF S' i c):=by
 have B:=Qj.UR (o:=ZC F sp Tn S) hf hS.at_ hS.hi;obtain⟨ks,cm,hrow,hrd,hlen,hbn⟩:=hS.at_.rd;have hpt:=JD h6
 have hrb:(row.length:Int)≤9223372036854775807:=by omega
 refine Jq Tryz.func255 Tryz.ntmps255 fun T K=>?_;have M:=B.mem;refine Qb 2 K M fun _ K=>?_;refine p1 K (U0 YV rfl rfl) fun _ K=>?_;refine Qb 2 K M fun _ K=>?_;refine pg K rfl rfl (Q4 Js rfl rfl (hR.len.trans (congrArg some (Q0 _)))) fun _ K=>?_;refine Qb 3 K M fun _ K=>?_;refine pg K rfl rfl (Qh rfl (Qp (M.QY Qx hrow.QF) (Qc Qq rfl))) fun _ K=>pg K rfl rfl (Z1 (n:=Tn) rfl rfl Qe) fun _ K=>?_;refine Qb 2 K M fun _ K=>?_;refine oB K (QA rfl) rfl fun b17 _ e17 K=>?_;cases b17
 ·replace e17:(((row.length:Nat):Int)=((2^Tn:Nat):Int)):=by simpa using e17
  refine Qb 1 K M fun _ K=>?_;replace B:=B.step M;obtain⟨v19,st19,ev19,rfl,q19⟩:=F5 (fo:=284) (fa:=[]) (fc:=[]) B.fresh (B.rd hf hR hoff) hrb (fun x hx st1 q=>vk q.fresh (hrv x hx).1 (hrv x hx).2);refine pg K rfl rfl (Qf rfl ev19) fun _ K=>?_;replace B:=B.quiet q19;have M:=B.mem;refine Qb 4 K M fun _ K=>?_;replace B:=B.step M;have hlo:=hlen0;obtain⟨v23,st23,ev23,i1,S1,rfl,hout1,m1,lv1,hev1⟩:=yC h6 hrl hrv Tn 0 (Nat.zero_add _) _ _ _ 0 B.fresh (B.H6 (k:=0) rfl) wf hlen0 Q8 (B.rd hf hR hoff) (B.off (k:=0) rfl hf hR hoff);refine p1 K (Qf rfl ev23) fun _ K=>?_;obtain⟨F1,B⟩:=B.XP hout1;have M:=B.mem;refine Qb 1 K M ?_;refine⟨_,_,rfl,(B.step M).Kk,m1,fun c hc=>?_⟩;have:=hev1 c hc;rw[show S8 0 0 c=c by simp[S8]]at this;exact this
 replace e17: ¬(((row.length:Nat):Int)=((2^Tn:Nat):Int)):=by simpa using e17
 exfalso;omega
end Go.Proofs.YtildagdnomiahaaGreatDoor
