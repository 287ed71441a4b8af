/-
  What hangs on letters: made.
-/
import Derived.Test.YtiknomepbklibaaGreatDoorQrBdA
set_option maxHeartbeats 8000000
set_option maxRecDepth 100000
set_option linter.unnecessarySimpa false
set_option linter.unusedSimpArgs false
set_option linter.unusedVariables false
section
namespace Go.Proofs.YtiknomepbklibaaGreatDoor
open Go Go.RowKit
variable {F:Fp} {S:UG} {T Tn a c sp t:Nat} {fa fc:List AV} {fo:FuncId} {kl kr:AV} {l row:List Int} {st:St} {x:Int}

theorem JH(h:T≤6):2^T≤64:=Nat.le_trans (Nat.pow_le_pow_right QE h) QE
theorem TO(S:UG)(i:Nat)(h:c<2^T):(WU T S i).take (c+1)=(WU T S i).take c++[Y8 S i c]:=by
 rw[List.take_add_one,CT S i h];rfl
def M8(t a c:Nat):Nat:=a+c/2^t *2^t
theorem zX(h:c.testBit t=false):M8 (t+1) a c=M8 t a c:=by
 unfold M8
 have h1:c/2^t % 2=0:=by
  rw[Nat.testBit_eq_decide_div_mod_eq,decide_eq_false_iff_not]at h;omega
 have h2:c/2^(t+1)=c/2^t/2:=by rw[Nat.pow_succ,Nat.div_div_eq_div_mul]
 rw[h2,Nat.pow_succ]
 have h3:c/2^t/2 *2=c/2^t:=by omega
 rw[Nat.mul_comm (2^t) 2,←Nat.mul_assoc,h3]
theorem ud(h:c.testBit t=true):M8 (t+1) (a+2^t) c=M8 t a c:=by
 unfold M8
 have h1:c/2^t % 2=1:=by
  rw[Nat.testBit_eq_decide_div_mod_eq,decide_eq_true_eq]at h;exact h
 have h2:c/2^(t+1)=c/2^t/2:=by rw[Nat.pow_succ,Nat.div_div_eq_div_mul]
 rw[h2,Nat.pow_succ]
 have h3:c/2^t/2 *2+1=c/2^t:=by omega
 rw[Nat.mul_comm (2^t) 2,←Nat.mul_assoc]
 conv=>rhs;rw[←h3]
 rw[Nat.succ_mul];omega
theorem vC(h:a<2^t):a|||2^t=a+2^t:=by
 have:=Nat.two_pow_add_eq_or_of_lt h 1;rw[Nat.mul_one]at this;rw[Nat.or_comm,←this,Nat.add_comm]
theorem LR{P:Program}{G:Env}{K:List (Nat×AV)}{t yt:TypeId}{x y:Operand}{b e:Nat}(he:a|||b=e)(hx:Jb G K x=some (.int .i64 (a:Nat)))(hy:Jb G K y=some (.int .i64 (b:Nat)))(ha:a≤9223372036854775807)(hb:b≤9223372036854775807):U4 P G K (.binOp .or t x y yt) st (.int .i64 (e:Nat)) st:=he▸jm hx hy ha hb
theorem VT.more{S':UG}{k k' i:Nat}(h:VT T S k S' i)(hk:k≤k'):VT T S k' S' i:=⟨h.wf,h.pre,h.lt,Nat.le_trans h.len Qe⟩
theorem xu(hf:Qj st)(hS:Z0 st F sp Tn S)(h6:Tn≤6)(wf:Xq Tn S){i:Nat}(hi:i<S.length): ∃v st',Ev Tryz.prog Q5 49 [.ptr sp 0 0,iN i] st v st'∧ ∃kr,v=kr∧Ep st st' 1 kr (zC (WU Tn S i))∧Qt st st':=by
 have hp:=JH h6;refine JI Tryz.func49 Tryz.ntmps49 fun T K=>?_;have M:=Mem.start hf;refine Qc 3 K M ?_;intro _ K;obtain⟨v9,st9,ev9,rfl,q9⟩:=NW M.fresh (hS.q M.qt) hi;refine p1 K (Qh rfl ev9) fun _ K=>?_;replace M:=M.quiet q9;refine Qc 4 K M ?_;intro _ K;refine oQ K M (Eo M.fresh (hS.q M.qt)) rfl rfl fun _ _ K M=>?_;refine p1 K (Y5 (n:=Tn) rfl rfl Qe) fun _ K=>?_;refine Qc 1 K M ?_;intro _ K;refine Je (fun mm1 T st9=> ∃(c:Nat) (kr:AV) (A:UA),mm1=2^Tn-c∧QZ [(0,.ptr sp 0 0),(1,iN i),(4,.nils),(5,kr),(13,iZ (2^Tn:Nat)),(14,iN c)] T∧Mem st.h.get st.n [] st9 (A++[])∧Acc st.n 1 A kr (zC ((WU Tn S i).take c))∧c≤2^Tn) (fun mm1 T st9 hI=>?_) _ _ _ ⟨0,.nils,[],rfl,(K.sub rfl),M.less (.refl _),(by rw[List.take_zero];exact .none),(Nat.zero_le _)⟩;obtain⟨c,kr,A,rfl,K,M,hA,hc⟩:=hI;refine Qc 1 K M ?_;intro _ K;refine JS K rfl (fun h15=>?_) fun h15=>?_
 ·refine Qc 6 K M ?_;intro _ K;refine oQ K M (yl (c:=c) M.fresh (hS.q M.qt) h6 wf hi Qe) rfl rfl fun _ _ K M=>?_;refine au 1 K M ?_;intro c22 _ _ K _ M;refine Sd (k2:=0) (L:=[(c22,0,[iZ ((Y8 S i c))])]) (A:=A) (B:=[]) K M hA QM rfl rfl rfl rfl (by rw[Qn,List.length_take,LH];have:=Nat.min_le_right c (2^Tn);omega) rfl fun ks23 A23 _ _ K hA23 M=>?_;refine Qc 3 K M ?_;intro _ K;exact⟨_,Qe,c+1,ks23,A23,rfl,(K.sub rfl),M.less (.cons _ (.refl _)),(by rw[TO S i Qe,JY];exact hA23),Qe⟩
 refine QW ?_;show W _ _ _ _ _ _ _;refine Qc 2 K M ?_;refine⟨_,rfl,?_,M.qt⟩;rw[List.take_of_length_le (by rw[LH];omega)]at hA;have h:=Mem.B5 (L:=[]) (A:=A) (B:=[]) M hA
 simpa using h

theorem Nu(hf:Qj st)(h1:0≤x)(h2:x≤1099511627776): ∃v st',Ev Tryz.prog Q5 95 [iZ x] st v st'∧v=.bool true∧Qt st st':=by
 refine JI Tryz.func95 Tryz.ntmps95 fun T K=>?_;have M:=Mem.start hf;refine Qc 3 K M ?_;intro _ K;refine Un K (Qg rfl) rfl (fun _ e5 K=>?_) fun _ e5 K=>?_
 ·exfalso;omega
 refine Qc 4 K M ?_;exact⟨congrArg AV.bool (decide_eq_true h2),M.qt⟩

theorem Tx(hf:Qj st)(h6:Tn≤6): ∃v st',Ev Tryz.prog Q5 70 [iN Tn] st v st'∧ ∃sp F,v=.ptr sp 0 0∧Z0 st' F sp Tn []∧ZT st st' F∧Qt st st':=by
 have B:=Qk.start hf;refine JI Tryz.func70 Tryz.ntmps70 fun T K=>?_;have M:=B.mem;refine Qc 3 K M ?_;intro _ K;refine Un K (Qg rfl) rfl (fun _ e5 K=>?_) fun _ e5 K=>?_
 ·refine Qc 3 K M ?_;intro _ K;refine JS K rfl (fun h8=>?_) fun h8=>?_
  ·exfalso;omega
  refine Qc 1 K M ?_;intro _ K;replace B:=B.step M;refine Wq E9 K B rfl fun c10 _ _ K B=>?_;have M:=B.mem;refine au 3 K M ?_;intro c12 _ _ K _ M;refine Qc 0 K M ?_;obtain⟨F,B'⟩:=Qk.RG (M:=[]) (Os:=[]) (A:=[]) (S:=[]) (B.step M) .none;exact⟨_,F,rfl,B'.IW (k:=0) rfl,B'.jP (k:=0) rfl,B'.qt⟩
 exfalso;omega

theorem yj(hf:Qj st)(hS:Z0 st F sp Tn S)(hl:S.length<1000000000)(nd:Bn): ∃v st',Ev Tryz.prog Q5 150 [.ptr sp 0 0,(E9 nd)] st v st'∧ ∃i S',v=iN i∧Cp S nd i S'∧XU st st' F sp Tn S':=by
 have B0:=Qk.UM (o:=XA F sp Tn S) hf hS.at_ hS.hi;obtain⟨ks,cm,A,B,hA⟩:=B0.eB;have hbl:YB ks=some S.length:=hA.len.trans (congrArg some (List.length_map ..));refine JI Tryz.func150 Tryz.ntmps150 fun T K=>?_;have M:=B.mem;replace M:=Mem.cast (M':=((sp,0,[iN Tn,ks,.mp cm])::(A++[]))) M QA;replace B:=B.cast (show _=((sp,0,[iN Tn,ks,.mp cm])::(A++[])) by simp);replace M:=B.mem;refine Qc 6 K M ?_;intro _ K;refine p1 K (W2 jZ ((B.step M).at_ (k:=0) rfl) rfl rfl) fun _ K=>?_;refine Qc 7 K M ?_;intro _ K;refine Qq (K.QJ rfl) (fun h17=>?_) (fun h17=>?_)
 ·have hb17:=h17
  replace h17:((Yn (V6 0 S) nd).isSome)=false:=by simpa using h17
  refine QD ?_
  have hnone:Yn (V6 0 S) nd=none:=by cases hq:Yn (V6 0 S) nd with|none=>rfl|some x=>rw[hq]at h17;cases h17
  refine Qc 4 K M ?_;intro _ K;refine p1 K (Q8 X2 rfl rfl hbl) fun _ K=>?_;refine Qc 7 K M ?_;intro _ K;refine ZV K M VY EB rfl ((JC rfl (Pj nd) rfl).trans rfl) (Qa (Pj nd) Qz) rfl rfl fun c29 _ _ K M=>?_;refine YL (k2:=0) (L:=[(c29,0,[(E9 nd)]),(sp,0,[iN Tn,ks,.mp cm])]) (A:=A) (B:=[]) K M hA VY rfl rfl rfl (by rw[List.length_map];omega) rfl fun ks30 A30 _ _ K hA30 hN30 M=>?_;simp only[List.append_assoc,List.cons_append,List.nil_append,List.set_cons_zero,List.set_cons_succ]at M;refine Qc 2 K M ?_;intro _ K;refine Jj (k:=1) K M rfl rfl rfl Fh (hA30.cell) rfl fun _ M=>?_;refine Qc 6 K M ?_;intro _ K;replace B:=B.step M;refine Hg (j:=0) (a:=nd) K B rfl jZ rfl rfl rfl rfl hnone fun _ B=>?_;have M:=B.mem;refine Qc 2 K M ?_;refine⟨S.length,S++[nd],rfl,.app (zT hnone),?_⟩;have hA':=hA30;rw[BA]at hA'
  have e:V6 0 S++[(nd,iZ (S.length:Nat))]=V6 0 (S++[nd]):=by rw[G3,Nat.zero_add]
  obtain⟨F',B'⟩:=Qk.RG (M:=[]) (Os:=[]) (A:=A30) (S:=S++[nd]) (by rw[←e];exact(B.step M).less (.cons _ (.refl _))) hA';exact B'.LQ
 have hb17:=h17
 replace h17:((Yn (V6 0 S) nd).isSome)=true:=by simpa using h17
 refine Qc 2 K M ?_
 obtain⟨v0,hv0⟩: ∃x,Yn (V6 0 S) nd=some x:=by cases hq:Yn (V6 0 S) nd with|none=>rw[hq]at h17;cases h17|some x=>exact⟨x,rfl⟩
 obtain⟨i,hi,rfl⟩:=zS hv0;refine⟨i,S,by rw[hv0];rfl,.inl ⟨hi,rfl⟩,?_⟩;obtain⟨F',B'⟩:=Qk.RG (M:=[]) (Os:=[]) (A:=A) (S:=S) (by simpa using B.step M) hA;exact B'.LQ

theorem Po(hf:Qj st)(hS:Z0 st F sp Tn S)(wf:Xq Tn S)(hl:S.length<1000000000)(h1:0≤x)(h2:x≤1099511627776): ∃v st',Ev Tryz.prog Q5 125 [.ptr sp 0 0,iZ x] st v st'∧ ∃i S',v=iN i∧XU st st' F sp Tn S'∧VT Tn S 1 S' i∧lvl Tn S' i=Tn∧ ∀c,Y8 S' i c=x:=by
 have B:=Qk.UM (o:=XA F sp Tn S) hf hS.at_ hS.hi;refine JI Tryz.func125 Tryz.ntmps125 fun T K=>?_;have M:=B.mem;refine Qc 2 K M ?_;intro _ K;refine p1 K (Y6 ZW rfl rfl) fun _ K=>?_;refine Qc 2 K M ?_;intro _ K;obtain⟨v9,st9,ev9,rfl,q9⟩:=Nu M.fresh h1 h2;refine pg K rfl rfl (Qh rfl ev9) fun _ K=>?_;replace M:=M.quiet q9;refine Qc 6 K M ?_;intro _ K;refine p1 K (Dk rfl (B6 _)) fun _ K=>?_;replace B:=B.step M;obtain⟨v16,st16,ev16,i16,S16,rfl,hput,hout⟩:=yj M.fresh (B.IW (k:=0) rfl) Qe (.leaf x);refine p1 K (Qh rfl ev16) fun _ K=>?_;obtain⟨F',B⟩:=B.VR hout;have M:=B.mem;refine Qc 1 K M ?_;obtain⟨h3,h4,h5⟩:=zU hput wf ⟨h1,h2⟩;exact⟨_,_,rfl,(B.step M).LQ,h3,h4,h5⟩

theorem yh(hf:Qj st)(hS:Z0 st F sp Tn S)(wf:Xq Tn S)(hlen:S.length<1000000000){l h:Nat}(ht:t<Tn)(hl:l<S.length)(hh:h<S.length)(h1:t<lvl Tn S l)(h2:t<lvl Tn S h): ∃v st',Ev Tryz.prog Q5 126 [.ptr sp 0 0,iN t,iN l,iN h] st v st'∧ ∃i S',v=iN i∧XU st st' F sp Tn S'∧VT Tn S 1 S' i∧t≤lvl Tn S' i∧ ∀c,Y8 S' i c=if c.testBit t then Y8 S h c else Y8 S l c:=by
 have B:=Qk.UM (o:=XA F sp Tn S) hf hS.at_ hS.hi;refine JI Tryz.func126 Tryz.ntmps126 fun T K=>?_;have M:=B.mem;refine Qc 3 K M ?_;intro _ K;refine Un K (Qg rfl) rfl (fun _ e12 K=>?_) fun _ e12 K=>?_
 ·refine Qc 2 K M ?_;intro _ K;replace B:=B.step M;obtain⟨v15,st15,ev15,rfl,q15⟩:=Eo M.fresh (B.IW (k:=0) rfl);refine pg K rfl rfl (Qh rfl ev15) fun _ K=>?_;replace B:=B.quiet q15;have M:=B.mem;refine Qc 2 K M ?_;intro _ K;refine Un K (Qg rfl) rfl (fun _ e18 K=>?_) fun _ e18 K=>?_
  ·refine Qc 3 K M ?_;intro _ K;replace B:=B.step M;obtain⟨v22,st22,ev22,rfl,q22⟩:=GB M.fresh (B.IW (k:=0) rfl) hl t ht;refine pg K rfl rfl (Qh rfl ev22) fun _ K=>?_;replace B:=B.quiet q22;have M:=B.mem;refine Qc 2 K M ?_;intro _ K;refine oB K (Qg rfl) rfl fun b25 _ e25 K=>?_;cases b25
   ·replace e25:(t<lvl Tn S l):=by simpa using e25
    refine Qc 3 K M ?_;intro _ K;replace B:=B.step M;obtain⟨v29,st29,ev29,rfl,q29⟩:=GB M.fresh (B.IW (k:=0) rfl) hh t ht;refine pg K rfl rfl (Qh rfl ev29) fun _ K=>?_;replace B:=B.quiet q29;have M:=B.mem;refine Qc 3 K M ?_;intro _ K;refine vd K rfl (fun h9=>?_) fun h9=>?_
    ·exfalso;omega
    refine Qc 4 K M ?_;intro _ K;refine JS K rfl (fun h32=>?_) fun h32=>?_
    ·refine Qc 2 K M ?_;obtain⟨h3,h4,h5⟩:=xL (.inl ⟨by omega,rfl,rfl⟩) wf ht hl hh h1 h2;exact⟨_,_,rfl,(B.step M).LQ,h3,h4,h5⟩
    refine Qc 5 K M ?_;intro _ K;refine p1 K (Dk rfl (B7 _)) fun _ K=>?_;replace B:=B.step M;obtain⟨v43,st43,ev43,i43,S43,rfl,hput,hout⟩:=yj M.fresh (B.IW (k:=0) rfl) Qe (.fork t l h);refine p1 K (Qh rfl ev43) fun _ K=>?_;obtain⟨F',B⟩:=B.VR hout;have M:=B.mem;refine Qc 1 K M ?_;obtain⟨h3,h4,h5⟩:=xL (.inr ⟨by omega,hput⟩) wf ht hl hh h1 h2;exact⟨_,_,rfl,(B.step M).LQ,h3,h4,h5⟩
   replace e25: ¬(t<lvl Tn S l):=by simpa using e25
   exfalso;omega
  exfalso;omega
 exfalso;omega

theorem MC(hf:Qj st)(hl:Jk st.h.get [] 1 (zC l) kl)(hb:(l.length:Int)≤9223372036854775807){p:Int→Bool}(hC: ∀(x:Int),x∈l→ ∀(st1:St),Qt st st1→ ∃v st',Ev Tryz.prog Q5 fo (fa++([iZ x]++fc)) st1 v st'∧v=.bool (p x)∧Qt st1 st'): ∃v st',Ev Tryz.prog Q5 68 [kl,(AV.fn fo fa fc)] st v st'∧v=iZ (I0 p l 0)∧Qt st st':=by
 refine JI Tryz.func68 Tryz.ntmps68 fun T K=>?_;have M:=Mem.start hf;refine Qc 2 K M ?_;intro _ K;refine p1 K (Q8 Jr rfl rfl (hl.len.trans (congrArg some (Qn _)))) fun _ K=>?_;refine Qc 1 K M ?_;intro _ K;refine Je (fun mm1 T st9=> ∃(i:Nat),mm1=l.length-i∧QZ [(0,kl),(1,(AV.fn fo fa fc)),(7,iZ (l.length:Nat)),(8,iN i)] T∧Mem st.h.get st.n [] st9 []∧i≤l.length∧I0 p l 0=I0 p (l.drop i) i) (fun mm1 T st9 hI=>?_) _ _ _ ⟨0,rfl,(K.sub rfl),M.less (.refl _),(Nat.zero_le _),rfl⟩;obtain⟨i,rfl,K,M,hi,hx⟩:=hI;refine Qc 1 K M ?_;intro _ K;refine JS K rfl (fun h9=>?_) fun h9=>?_
 ·refine Qc 5 K M ?_;intro _ K;obtain⟨y14,hi14⟩:=U9 l i Qe;obtain⟨x14,m14,f14,q14,_,la14,lo14,lp14⟩:=(Jk.mem M hl QA).load (i:=i) (cs:=_) (Jt hi14);refine p1 K (Qb (j:=i) Qw (congrArg some q14) rfl (by rw[Qn];omega)) fun _ K=>p1 K (Qd rfl (lo14 _ 0 _ Qr rfl)) fun _ K=>?_;obtain⟨v16,st16,ev16,rfl,q16⟩:=hC y14 (List.mem_of_getElem? hi14) _ M.qt;refine p1 K (Xa rfl rfl ev16) fun _ K=>?_;replace M:=M.quiet q16;refine Uo ?_;show W _ _ _ _ _ _ _;refine Qq (K.QJ rfl) (fun h16=>?_) (fun h16=>?_)
  ·have hb16:=h16;refine Qc 2 K M ?_;exact⟨by rw[hx,AH hi14,if_pos h16],M.qt⟩
  have hb16:=h16;refine Qc 2 K M ?_;intro _ K;exact⟨_,Qe,i+1,rfl,(K.sub rfl),M.less (.refl _),Qe,(by rw[hx,AH hi14,if_neg (by rw[h16];decide)])⟩
 refine QW ?_;show W _ _ _ _ _ _ _;refine Qc 1 K M ?_;exact⟨by rw[hx,DB Qe],M.qt⟩

theorem HS(hf:Qj st)(hl:Jk st.h.get [] 1 (zC l) kl)(hb:(l.length:Int)≤9223372036854775807){p:Int→Bool}(hC: ∀(x:Int),x∈l→ ∀(st1:St),Qt st st1→ ∃v st',Ev Tryz.prog Q5 fo (fa++([iZ x]++fc)) st1 v st'∧v=.bool (p x)∧Qt st1 st'): ∃v st',Ev Tryz.prog Q5 42 [kl,(AV.fn fo fa fc)] st v st'∧v=.bool (l.any p)∧Qt st st':=by
 refine JI Tryz.func42 Tryz.ntmps42 fun T K=>?_;have M:=Mem.start hf;refine Qc 3 K M ?_;intro _ K;refine oQ K M (MC M.fresh (Jk.mem M hl QA) hb (fun x hx st1 q=>hC x hx st1 (M.qt.trans q))) rfl rfl fun _ _ K M=>?_;refine Qc 2 K M ?_;exact⟨by rw[←DC p l 0],M.qt⟩

theorem HQ(hf:Qj st)(hl:Jk st.h.get [] 1 (zC l) kl)(hb:(l.length:Int)≤9223372036854775807)(hC: ∀(x:Int),x∈l→ ∀(st1:St),Qt st st1→ ∃v st',Ev Tryz.prog Q5 fo (fa++([.int .i64 x]++fc)) st1 v st'∧v=.bool false∧Qt st1 st'): ∃v st',Ev Tryz.prog Q5 42 [kl,.fn fo fa fc] st v st'∧v=.bool false∧Qt st st':=by
 obtain⟨v,st',h1,h2,h3⟩:=HS (p:=fun _=>false) hf hl hb hC;exact⟨v,st',h1,by rw[h2];simp,h3⟩

theorem wP(hf:Qj st)(h1:0≤x)(h2:x≤1099511627776): ∃v st',Ev Tryz.prog Q5 94 [iZ x] st v st'∧v=.bool false∧Qt st st':=by
 refine JI Tryz.func94 Tryz.ntmps94 fun T K=>?_;have M:=Mem.start hf;refine Qc 2 K M ?_;intro _ K;refine oQ K M (Nu M.fresh h1 h2) rfl rfl fun _ _ K M=>?_;refine Qc 2 K M ?_;exact⟨rfl,M.qt⟩

theorem ya(hf:Qj st)(hS:Z0 st F sp Tn S)(h6:Tn≤6)(wf:Xq Tn S)(ht:t≤Tn)(ha:a<2^t)(hlen0:S.length+(2^(Tn-t+1)-1)≤1000000000)(hR:Jk st.h.get [] 1 (zC row) kr)(hoff: ∀c m o n y,kr=.sl c m o n y→ ¬F c)(hrl:row.length=2^Tn)(hrv: ∀x∈row,0≤x∧x≤1099511627776)(ih:t<Tn→ ∀(st:St) (F:Fp) (S:UG) (a:Nat),Qj st→Z0 st F sp Tn S→Xq Tn S→S.length+(2^(Tn-(t+1)+1)-1)≤1000000000→a<2^(t+1)→Jk st.h.get [] 1 (zC row) kr→(∀c m o n y,kr=.sl c m o n y→ ¬F c)→ ∃v st',Ev Tryz.prog Q5 96 [.ptr sp 0 0,kr,iZ (t+1:Nat),iN a] st v st'∧ ∃i S',v=iN i∧XU st st' F sp Tn S'∧VT Tn S (2^(Tn-(t+1)+1)-1) S' i∧t+1≤lvl Tn S' i∧ ∀c,c<2^Tn→row[M8 (t+1) a c]? =some (Y8 S' i c)): ∃v st',Ev Tryz.prog Q5 96 [.ptr sp 0 0,kr,iN t,iN a] st v st'∧ ∃i S',v=iN i∧XU st st' F sp Tn S'∧VT Tn S (2^(Tn-t+1)-1) S' i∧t≤lvl Tn S' i∧ ∀c,c<2^Tn→row[M8 t a c]? =some (Y8 S' i c):=by
 have B:=Qk.UM (o:=XA F sp Tn S) hf hS.at_ hS.hi;obtain⟨ks,cm,hrow,hrd,hlen,hbn⟩:=hS.at_.rd;have hpt:=JH (show t≤6 by omega)
 have hp2:2^(t+1)=2 *2^t:=by rw[Nat.pow_succ,Nat.mul_comm]
 have hq0:1≤2^(Tn-t):=Nat.one_le_two_pow
 have hq1:2^(Tn-t+1)=2 *2^(Tn-t):=by rw[Nat.pow_succ,Nat.mul_comm]
 refine JI Tryz.func96 Tryz.ntmps96 fun T K=>?_;have M:=B.mem;refine Qc 5 K M ?_;intro _ K;refine p1 K (Qd rfl (Q0 (M.JK QA hrow.Jf) (Qf Qr rfl))) fun _ K=>?_;refine Qc 1 K M ?_;intro _ K;refine JS K rfl (fun h15=>?_) fun h15=>?_
 ·refine QD ?_
  have htt:t=Tn:=by omega
  have harl:a<row.length:=by rw[hrl,←htt];exact ha
  refine Qc 3 K M ?_;intro _ K;obtain⟨y19,hi19⟩:=U9 row a Qe;obtain⟨x19,m19,f19,q19,_,la19,lo19,lp19⟩:=((B.step M).rd hf hR hoff).load (i:=a) (cs:=_) (Jt hi19);refine p1 K (Qb (j:=a) Qw (congrArg some q19) rfl (by rw[Qn];omega)) fun _ K=>p1 K (Qd rfl (lo19 _ 0 _ Qr rfl)) fun _ K=>?_;replace B:=B.step M;obtain⟨hv1,hv2⟩:=hrv _ (List.mem_of_getElem? hi19);obtain⟨v21,st21,ev21,i1,S1,rfl,hout1,m1,lv1,hev1⟩:=Po B.fresh (B.IW (k:=0) rfl) wf Qe hv1 hv2;refine p1 K (Qh rfl ev21) fun _ K=>?_;obtain⟨F1,B⟩:=B.VR hout1;have M:=B.mem;refine Qc 1 K M ?_
  have e0: ∀c,c<2^Tn→M8 t a c=a:=fun c hc=>by
   unfold M8;rw[htt,Nat.div_eq_of_lt hc,Nat.zero_mul,Nat.add_zero]
  exact⟨_,_,rfl,(B.step M).LQ,m1.more Qe,by omega,fun c hc=>by rw[e0 c hc,hi19,hev1]⟩
 refine Qc 0 K M ?_;intro _ K
 have ht1:t<Tn:=by omega
 have hq2:Tn-(t+1)+1=Tn-t:=by omega
 have hq3:2^(Tn-(t+1)+1)=2^(Tn-t):=by rw[hq2]
 refine Qc 5 K M ?_;intro _ K;replace B:=B.step M;obtain⟨v27,st27,ev27,i1,S1,rfl,hout1,m1,lv1,hev1⟩:=ih ht1 _ _ _ a B.fresh (B.IW (k:=0) rfl) wf (by skip;omega) Qe (B.rd hf hR hoff) (B.off (k:=0) rfl hf hR hoff);refine p1 K (Qh rfl ev27) fun _ K=>?_;obtain⟨F1,B⟩:=B.VR hout1;have M:=B.mem;refine Qc 1 K M ?_;intro _ K;have hor:a|||2^t=a+2^t:=vC ha;refine Qc 9 K M ?_;intro _ K;refine p1 K (Y5 (n:=t) rfl rfl Qe) fun _ K=>p1 K (LR (a:=a) (b:=2^t) hor rfl rfl Qe Qe) fun _ K=>?_;replace B:=B.step M;obtain⟨v39,st39,ev39,i2,S2,rfl,hout2,m2,lv2,hev2⟩:=ih ht1 _ _ _ (a+2^t) B.fresh (B.IW (k:=0) rfl) m1.wf (by have:=m1.len;omega) Qe (B.rd hf hR hoff) (B.off (k:=0) rfl hf hR hoff);refine p1 K (Qh rfl ev39) fun _ K=>?_;obtain⟨F2,B⟩:=B.VR hout2;have M:=B.mem;replace B:=B.step M;have hl1:=m1.len;have hl2:=m2.len;have hq2:=Vg (T:=Tn) m2.pre m1.lt;have hq3:=m2.pre.length_le;have hlt1:=m1.lt;obtain⟨v40,st40,ev40,i3,S3,rfl,hout3,m3,lv3,hev3⟩:=yh B.fresh (B.IW (k:=0) rfl) m2.wf Qe ht1 (show i1<_ by omega) m2.lt Qe Qe;refine p1 K (Qh rfl ev40) fun _ K=>?_;obtain⟨F3,B⟩:=B.VR hout3;have M:=B.mem;refine Qc 1 K M ?_;refine⟨_,_,rfl,(B.step M).LQ,⟨m3.wf,m1.pre.trans (m2.pre.trans m3.pre),m3.lt,by have:=m3.len;omega⟩,lv3,fun c hc=>?_⟩;rw[hev3]
 cases hb:c.testBit t with
 |true=>rw[if_pos rfl,←ud hb];exact hev2 c hc
 |false=>rw[if_neg QE,Zr m1.wf m2.pre m1.lt,←zX hb];exact hev1 c hc

theorem xq(h6:Tn≤6)(hrl:row.length=2^Tn)(hrv: ∀x∈row,0≤x∧x≤1099511627776): ∀k t,t+k=Tn→ ∀(st:St) (F:Fp) (S:UG) (a:Nat),Qj st→Z0 st F sp Tn S→Xq Tn S→S.length+(2^(Tn-t+1)-1)≤1000000000→a<2^t→Jk st.h.get [] 1 (zC row) kr→(∀c m o n y,kr=.sl c m o n y→ ¬F c)→ ∃v st',Ev Tryz.prog Q5 96 [.ptr sp 0 0,kr,.int .i64 (t:Nat),.int .i64 (a:Nat)] st v st'∧ ∃i S',v=.int .i64 (i:Nat)∧XU st st' F sp Tn S'∧VT Tn S (2^(Tn-t+1)-1) S' i∧t≤lvl Tn S' i∧ ∀c,c<2^Tn→row[M8 t a c]? =some (Y8 S' i c):=by
 intro k
 induction k with
 |zero=>intro t ht st F S a hf hS wf hl ha hR hoff;exact ya hf hS h6 wf Qe ha hl hR hoff hrl hrv fun h=>by omega
 |succ k ih=>intro t ht st F S a hf hS wf hl ha hR hoff;exact ya hf hS h6 wf Qe ha hl hR hoff hrl hrv fun h=>ih (t+1) Qe

theorem yg(hf:Qj st)(hS:Z0 st F sp Tn S)(h6:Tn≤6)(wf:Xq Tn S)(hlen0:S.length+(2^(Tn-0+1)-1)≤1000000000)(hR:Jk st.h.get [] 1 (zC row) kr)(hoff: ∀c m o n y,kr=.sl c m o n y→ ¬F c)(hrl:row.length=2^Tn)(hrv: ∀x∈row,0≤x∧x≤1099511627776): ∃v st',Ev Tryz.prog Q5 71 [.ptr sp 0 0,kr] st v st'∧ ∃i S',v=iN i∧XU st st' F sp Tn S'∧VT Tn S (2^(Tn+1)-1) S' i∧ ∀c,c<2^Tn→row[c]? =some (Y8 S' i c):=by
 have B:=Qk.UM (o:=XA F sp Tn S) hf hS.at_ hS.hi;obtain⟨ks,cm,hrow,hrd,hlen,hbn⟩:=hS.at_.rd;have hpt:=JH h6
 have hrb:(row.length:Int)≤9223372036854775807:=by omega
 refine JI Tryz.func71 Tryz.ntmps71 fun T K=>?_;have M:=B.mem;refine Qc 2 K M ?_;intro _ K;refine p1 K (Y6 ZW rfl rfl) fun _ K=>?_;refine Qc 2 K M ?_;intro _ K;refine pg K rfl rfl (Q8 Jr rfl rfl (hR.len.trans (congrArg some (Qn _)))) fun _ K=>?_;refine Qc 3 K M ?_;intro _ K;refine pg K rfl rfl (Qd rfl (Q0 (M.JK QA hrow.Jf) (Qf Qr rfl))) fun _ K=>pg K rfl rfl (Y5 (n:=Tn) rfl rfl Qe) fun _ K=>?_;refine Qc 2 K M ?_;intro _ K;refine oB K (Qg rfl) rfl fun b17 _ e17 K=>?_;cases b17
 ·replace e17:(((row.length:Nat):Int)=((2^Tn:Nat):Int)):=by simpa using e17
  refine Qc 1 K M ?_;intro _ K;replace B:=B.step M;obtain⟨v19,st19,ev19,rfl,q19⟩:=HQ (fo:=94) (fa:=[]) (fc:=[]) B.fresh (B.rd hf hR hoff) hrb (fun x hx st1 q=>wP q.fresh (hrv x hx).1 (hrv x hx).2);refine pg K rfl rfl (Qh rfl ev19) fun _ K=>?_;replace B:=B.quiet q19;have M:=B.mem;refine Qc 4 K M ?_;intro _ K;replace B:=B.step M;have hlo:=hlen0;obtain⟨v23,st23,ev23,i1,S1,rfl,hout1,m1,lv1,hev1⟩:=xq h6 hrl hrv Tn 0 (Nat.zero_add _) _ _ _ 0 B.fresh (B.IW (k:=0) rfl) wf hlen0 QE (B.rd hf hR hoff) (B.off (k:=0) rfl hf hR hoff);refine p1 K (Qh rfl ev23) fun _ K=>?_;obtain⟨F1,B⟩:=B.VR hout1;have M:=B.mem;refine Qc 1 K M ?_;refine⟨_,_,rfl,(B.step M).LQ,m1,fun c hc=>?_⟩;have:=hev1 c hc;rw[show M8 0 0 c=c by simp[M8]]at this;exact this
 replace e17: ¬(((row.length:Nat):Int)=((2^Tn:Nat):Int)):=by simpa using e17
 exfalso;omega
end Go.Proofs.YtiknomepbklibaaGreatDoor
end
section
namespace Go.Proofs.YtiknomepbklibaaGreatDoor
open Go

theorem Hh:tk Tryz.prog 52=.one:=by kernel_rfl
theorem Hl:YM Tryz.prog 52=some 1:=by kernel_rfl
theorem Hd:zeroOf Tryz.prog 52=some [.nilf]:=by kernel_rfl
end Go.Proofs.YtiknomepbklibaaGreatDoor
end
section
namespace Go.Proofs.YtiknomepbklibaaGreatDoor
open Go

theorem YG:tk Tryz.prog 93=.one:=by kernel_rfl
theorem J7:tk Tryz.prog 179=.one:=by kernel_rfl
theorem Xs:tk Tryz.prog 200=.one:=by kernel_rfl
end Go.Proofs.YtiknomepbklibaaGreatDoor
end
section
namespace Go.Proofs.YtiknomepbklibaaGreatDoor
open Go Go.RowKit
variable {a:Au}

def bC(l:List Bool):List (List AV):=l.map fun b=>[AV.bool b]
theorem Jy(l:List Bool):(bC l).length=l.length:=by simp[bC]
theorem VD{l:List Bool}{i:Nat}{b:Bool}(h:l[i]? =some b):(bC l)[i]? =some [AV.bool b]:=by rw[bC,List.getElem?_map,h];rfl
theorem XS(a b:List Bool):bC (a++b)=bC a++bC b:=by simp[bC]
theorem yk(l:List Bool): ∀cs∈bC l,cs.length=1:=by
 intro cs h;obtain⟨s,_,rfl⟩:=List.mem_map.1 h;rfl
def yC(F:Fp)(v:AV):Prop:= ∀c m o n y,v=.sl c m o n y→F c
theorem Acc.xa{n0 z:Nat}{A:QP}{kr:AV}{ls:List (List AV)}(hA:Acc n0 z A kr ls):yC (Xn A).F kr:=fun c m o n y e=>by
 cases hA with
 |none=>cases e
 |own h1 h2 h3=>injection e with e1 e2;subst e1;exact⟨_,_,List.mem_cons_self ..⟩
theorem YS.xa{A:QP}{kr:AV}{vs:List AV}(hA:YS A kr vs):yC (Xn A).F kr:=fun c m o n y e=>by
 cases hA with
 |none=>cases e
 |own h3=>injection e with e1 e2;subst e1;exact⟨_,_,List.mem_cons_self ..⟩
structure YR(h:Hp)(F:Fp)(vs:List AV)(LL:List (List Int)):Prop where
 ln:vs.length=LL.length
 at_: ∀(i:Nat) (s:List Int),LL[i]? =some s→ ∃v,vs[i]? =some v∧Jk h [] 1 (zC s) v∧Vm s∧yC F v
theorem YR.frame{h h':Hp}{F:Fp}{vs:List AV}{LL:List (List Int)}(e: ∀c,F c→h' c=h c)(H:YR h F vs LL):YR h' F vs LL:=
 ⟨H.ln,fun i s hi=>by
  obtain⟨v,h1,h2,h3,h4⟩:=H.at_ i s hi
  exact⟨v,h1,h2.frame fun c m o n y e'=>e c (h4 c m o n y e'),h3,h4⟩⟩
def EC(F:Fp)(vs:List AV)(LL:List (List Int)):Ob:=⟨F,fun h=>YR h F vs LL,fun _ _ e H=>H.frame e⟩
structure Xy(h:Hp)(F:Fp)(kn:AV)(vs:List AV)(LL:List (List Int)):Prop where
 rd:Jk h [] 1 (vs.map fun v=>[v]) kn
 vs:YR h F vs LL
 out:yC F kn
theorem Xy.frame{h h':Hp}{F:Fp}{kn:AV}{vs:List AV}{LL:List (List Int)}(e: ∀c,F c→h' c=h c)(H:Xy h F kn vs LL):Xy h' F kn vs LL:=
 ⟨H.rd.frame fun c m o n y e'=>e c (H.out c m o n y e'),H.vs.frame e,H.out⟩
def BG(F:Fp)(kn:AV)(vs:List AV)(LL:List (List Int)):Ob:=⟨F,fun h=>Xy h F kn vs LL,fun _ _ e H=>H.frame e⟩
theorem Xy.r{h:Hp}{F:Fp}{kn:AV}{vs:List AV}{LL:List (List Int)}(H:Xy h F kn vs LL):Ll h LL kn (vs.map fun v=>[v]):=by
 refine⟨H.rd,by rw[List.length_map];exact H.vs.ln,fun i s hi=>?_⟩;obtain⟨v,k1,k2,k3,_⟩:=H.vs.at_ i s hi;exact⟨[v],by rw[List.getElem?_map,k1];rfl,v,rfl,k2,k3⟩
theorem Xy.len{h:Hp}{F:Fp}{kn:AV}{vs:List AV}{LL:List (List Int)}(H:Xy h F kn vs LL):YB kn=some LL.length:=H.r.len
section
variable {st0 st:St} {X0:Fp} {L A B M:QP} {Os:List Ob} {F:Fp} {vs:List AV} {LL:List (List Int)} {kr kn:AV} {row:List Int}
theorem Qk.aJ{A B:QP}(H:Qk st0 X0 st (L++(A++B)) Os):Qk st0 X0 st (A++(L++B)) Os:=H.perm (by rw[←List.append_assoc,←List.append_assoc];exact List.perm_append_comm.append_right B)
theorem Qk.V1(B:Qk st0 X0 st M Os):Qk st0 X0 st M (EC Xu [] []::Os):=
 B.new ⟨B.fresh,Nat.le_refl _,fun _ _=>rfl⟩ ⟨rfl,fun i s hi=>by simp at hi⟩ fun c hc=>hc.elim
theorem Qk.ZF(H:Qk st0 X0 st (L++(A++B)) (EC F vs LL::Os)){n0:Nat}(hA:Acc n0 1 A kr (zC row))(hz:Vm row): ∃F',Qk st0 X0 st (L++B) (EC F' (vs++[kr]) (LL++[row])::Os):=by
 have hr:Jk st.h.get [] 1 (zC row) kr:=Mem.Yl H.mem hA;have hin:=hA.xa;have B1:=H.aJ.freeze (o:=⟨(Xn A).F,fun h=>Jk h [] 1 (zC row) kr,fun h h' e r=>r.frame fun c m o n y e'=>e c (hin c m o n y e')⟩) hr (fun c hc=>hc);refine⟨fun c=>(Xn A).F c∨F c,B1.join (fun h1 h2=>⟨by rw[List.length_append,List.length_append,h2.ln];rfl,fun i s hi=>?_⟩) fun c hc=>hc⟩
 by_cases hl:i<LL.length
 ·rw[List.getElem?_append_left hl]at hi;obtain⟨v,k1,k2,k3,k4⟩:=h2.at_ i s hi;exact⟨v,by rw[List.getElem?_append_left (by rw[h2.ln];exact hl)];exact k1,k2,k3,fun c m o n y e=>.inr (k4 c m o n y e)⟩
 ·have hlt:=(List.getElem?_eq_some_iff.1 hi).1;rw[List.length_append,List.length_singleton]at hlt
  have hl:i=LL.length:=by omega
  subst hl;rw[List.getElem?_append_right (Nat.le_refl _),Nat.sub_self]at hi
  injection hi with hi
  subst hi;exact⟨kr,by rw[List.getElem?_append_right (by rw[h2.ln];exact Nat.le_refl _),h2.ln,Nat.sub_self];rfl,h1,hz,fun c m o n y e=>.inl (hin c m o n y e)⟩
theorem Qk.GR(H:Qk st0 X0 st (L++(A++B)) (EC F vs LL::Os))(hA:YS A kn vs): ∃F',Qk st0 X0 st (L++B) (BG F' kn vs LL::Os):=by
 have hr:Jk st.h.get [] 1 (vs.map fun v=>[v]) kn:=hA.rd fun c m l hm=>H.row c m l (by simp[hm]);have hin:=hA.xa;have B1:=H.aJ.freeze (o:=⟨(Xn A).F,fun h=>Jk h [] 1 (vs.map fun v=>[v]) kn,fun h h' e r=>r.frame fun c m o n y e'=>e c (hin c m o n y e')⟩) hr (fun c hc=>hc);refine⟨fun c=>(Xn A).F c∨F c,B1.join (fun h1 h2=>⟨h1,⟨h2.ln,fun i s hi=>?_⟩,fun c m o n y e=>.inl (hin c m o n y e)⟩) fun c hc=>hc⟩;obtain⟨v,k1,k2,k3,k4⟩:=h2.at_ i s hi;exact⟨v,k1,k2,k3,fun c m o n y e=>.inr (k4 c m o n y e)⟩
end
def P0(h:Hp)(F:Fp)(dp:Nat)(a:Au):Prop:=
 ∃(ka kr:AV) (sp:Nat) (F1:Fp) (S:UG) (roots:List Nat),Q4 h dp 0 [ka,kr,.ptr sp 0 0]∧F dp∧Jk h [] 1 (bC a.acc) ka∧yC F ka∧Jk h [] 1 (zC (roots.map fun r=>((r:Nat):Int))) kr∧yC F kr∧Az h F1 sp a.tr S∧(∀c,F1 c→F c)∧Xq a.tr S∧Zt a∧roots.length=a.n∧
  ∀(s r:Nat),roots[s]? =some r→r<S.length∧a.nx[s]? =some (WU a.tr S r)
theorem P0.frame{h h':Hp}{F:Fp}{dp:Nat}{a:Au}(e: ∀c,F c→h' c=h c)(H:P0 h F dp a):P0 h' F dp a:=by
 obtain⟨ka,kr,sp,F1,S,roots,h1,h2,h3,h4,h5,h6,h7,h8,h9⟩:=H;exact⟨ka,kr,sp,F1,S,roots,h1.frame (e dp h2),h2,h3.frame fun c m o n y e'=>e c (h4 c m o n y e'),h4,h5.frame fun c m o n y e'=>e c (h6 c m o n y e'),h6,h7.frame fun c hc=>e c (h8 c hc),h8,h9⟩
def AW(F:Fp)(dp:Nat)(a:Au):Ob:=⟨F,fun h=>P0 h F dp a,fun _ _ e H=>H.frame e⟩
structure Ya(st:St)(F:Fp)(dp:Nat)(a:Au):Prop where
 at_:P0 st.h.get F dp a
 hi: ∀c,F c→c<st.n
theorem Ya.q{st st':St}{F:Fp}{dp:Nat}{a:Au}(hD:Ya st F dp a)(q:Qt st st'):Ya st' F dp a:=⟨hD.at_.frame fun c hc=>q.J8 c (hD.hi c hc),fun c hc=>Nat.lt_of_lt_of_le (hD.hi c hc) q.le⟩
theorem Ya.wf{st:St}{F:Fp}{dp:Nat}(hD:Ya st F dp a):Zt a:=by
 obtain⟨_,_,_,_,_,_,_,_,_,_,_,_,_,_,_,h,_⟩:=hD.at_;exact h
theorem Qk.Tl{st0 st:St}{X0 F:Fp}{M:QP}{Os:List Ob}{dp:Nat}(B:Qk st0 X0 st M Os){k:Nat}(hk:Os[k]? =some (AW F dp a)):Ya st F dp a:=⟨B.at_ hk,B.Yw hk⟩
theorem Zt.AU(W:Zt a): ∀r∈a.nx,Vm r:=fun r hr z hz=>by
 obtain⟨_,h⟩:=W.row r hr;have:=h z hz;have:=W.most;omega
end Go.Proofs.YtiknomepbklibaaGreatDoor
end
section
namespace Go.Proofs.YtiknomepbklibaaGreatDoor
open Go Go.RowKit

def UX(h:Hp)(F:Fp)(z:Nat)(ks:AV)(ls:List (List AV)):Prop:= ∃A,Acc 0 z A ks ls∧(∀c m l,(c,m,l)∈A→Q4 h c m l∧F c)
def Wm(F:Fp)(z:Nat)(ks:AV)(ls:List (List AV)):Ob:=⟨F,fun h=>UX h F z ks ls,fun h h' e H=>by
 obtain⟨A,h1,h2⟩:=H
 exact⟨A,h1,fun c m l hm=>⟨(h2 c m l hm).1.frame (e c (h2 c m l hm).2),(h2 c m l hm).2⟩⟩⟩
theorem qi{n0 z:Nat}{A:QP}{ks:AV}{ls:List (List AV)}(hA:Acc n0 z A ks ls):(A.map Prod.fst).Nodup:=by cases hA<;>simp
section
variable {st0 st:St} {X0 F:Fp} {M A:QP} {Os:List Ob} {z:Nat} {ks:AV} {ls:List (List AV)}
theorem UX.rd{h:Hp}(H:UX h F z ks ls):Jk h [] z ls ks:=by
 obtain⟨A,h1,h2⟩:=H
 cases h1 with
 |none=>exact .nil _ _ _
 |own k1 k2 k3=>exact Jk.own (h2 _ _ _ (List.mem_cons_self ..)).1 k2 QA Qe
theorem UX.len{h:Hp}(H:UX h F z ks ls):YB ks=some ls.length:=by obtain⟨A,h1,_⟩:=H;exact h1.len
theorem UX.cell{h:Hp}(H:UX h F z ks ls):Qu ks=true:=by obtain⟨A,h1,_⟩:=H;exact h1.cell
theorem Qk.Bv(B:Qk st0 X0 st M (Wm F z ks ls::Os)): ∃A,Acc 0 z A ks ls∧Qk st0 X0 st (A++M) Os:=by
 obtain⟨A,h1,h2⟩:=B.obj _ (List.mem_cons_self ..);have B1:=B.vh (R:=A) (o':=⟨Xu,fun _=>True,fun _ _ _ h=>h⟩) h2 (qi h1) trivial (fun c hc=>hc.elim) (fun c m l _ hc=>hc);exact⟨A,h1,B1.Nq (.cons _ (.refl _))⟩
theorem Qk.VC(B:Qk st0 X0 st (A++M) Os)(hA:Acc 0 z A ks ls): ∃F',Qk st0 X0 st M (Wm F' z ks ls::Os):=
 ⟨(Xn A).F,B.freeze (o:=Wm (Xn A).F z ks ls) ⟨A,hA,fun c m l hm=>⟨B.row c m l (by simp[hm]),m,l,hm⟩⟩ fun c hc=>hc⟩
end
end Go.Proofs.YtiknomepbklibaaGreatDoor
end
section
namespace Go.Proofs.YtiknomepbklibaaGreatDoor
open Go Go.RowKit
variable {l:Nat} {st:St}

def UZ(mp l:Nat)(o:Bool):Ob:=⟨fun c=>c=mp,fun h=>Q4 h mp 0 [.int .i64 (l:Nat),.bool o],fun _ _ e H=>H.frame (e mp rfl)⟩
theorem Qk.Hn(hf:Qj st){c m:Nat}{l:List AV}(h:Q4 st.h.get c m l):Qk st (fun x=>x=c) st [(c,m,l)] []:=
 ⟨hf,Nat.le_refl _,fun c' m' l' h'=>(by injection List.mem_singleton.1 h' with e1 e2;injection e2 with e2 e3;subst e1 e2 e3;exact h),List.nodup_cons.2 ⟨by simp,List.nodup_nil⟩,fun c' m' l' h'=>(by injection List.mem_singleton.1 h' with e1 e2;exact .inr e1),fun o h=>(by cases h),fun o h=>(by cases h),.nil,fun o h=>(by cases h),fun _ _ _=>rfl⟩
def BD(l:Nat)(o:Bool)(n:Nat):Bool:= !o&&decide (n≤l)
def UP(l:Nat)(o:Bool)(n:Nat):Nat:=if o then l else l-n
def Zw(l:Nat)(o:Bool)(n:Nat):Bool:=o||decide (l<n)
theorem SO{n:Nat}(h:n≤l):BD l false n=true:=by simp[BD,h]
theorem Gn(l n:Nat):UP l false n=l-n:=rfl
theorem H3{n:Nat}(h:n≤l):Zw l false n=false:=by simp[Zw];omega

theorem SP(hf:Qj st)(n:Int): ∃v st',Ev Tryz.prog Q5 11 [iZ n] st v st'∧ ∃mp,v=.ptr mp 0 0∧st.n≤mp∧Q4 st'.h.get mp 0 [iZ (n.toNat:Nat),.bool false]∧Qt st st':=by
 refine JI Tryz.func11 Tryz.ntmps11 fun T K=>?_;have M:=Mem.start hf;refine Qc 2 K M ?_;intro _ K;refine p1 K (jq rfl rfl) fun _ K=>?_;refine au 3 K M ?_;intro c6 _ _ K _ M;refine Qc 0 K M ?_;refine⟨c6,rfl,(M.own c6 0 _ (List.mem_cons_self ..)).resolve_right QA,?_,M.qt⟩;have hr9:=M.UY (k:=0) rfl
 rwa [show max n 0=((n.toNat:Nat):Int) by omega]at hr9

theorem zR(hf:Qj st){mp:Nat}{o:Bool}(hr:Q4 st.h.get mp 0 [iN l,.bool o]): ∃v st',Ev Tryz.prog Q5 88 [.ptr mp 0 0] st v st'∧v=.bool o∧Qt st st':=by
 refine JI Tryz.func88 Tryz.ntmps88 fun T K=>?_;have M:=Mem.start hf;refine Qc 2 K M ?_;intro _ K;refine p1 K (Y6 Ih rfl rfl) fun _ K=>?_;refine Qc 4 K M ?_;intro _ K;refine pg K rfl rfl (Qd rfl (Q0 (M.JK QA hr.Jf) (Qf J0 rfl))) fun _ K=>?_;refine Qc 2 K M ?_;exact⟨rfl,M.qt⟩

theorem Gm(hf:Qj st){mp:Nat}{o:Bool}(hr:Q4 st.h.get mp 0 [.int .i64 (l:Nat),.bool o])(hl:l≤9223372036854775807)(n:Nat)(hn:n≤9223372036854775807): ∃v st',Ev Tryz.prog Q5 62 [.ptr mp 0 0,.int .i64 (n:Nat)] st v st'∧v=.bool (BD l o n)∧(UZ mp (UP l o n) (Zw l o n)).H st'.h.get∧UR (fun c=>c=mp) st st':=by
 have B:=Qk.Hn hf hr;refine BO rfl Tryz.func62 rfl Tryz.ntmps62 rfl fun T hT=>?_;have K:QZ [(0,_),(1,_)] T:=(.cons (hT 0) (.cons (hT 1) .nil));have M:=B.mem;refine Qc 3 K M ?_;intro _ K;refine Un K (Qg rfl) rfl (fun _ e8 K=>?_) fun _ e8 K=>?_
 ·refine Qc 1 K M ?_;intro _ K;obtain⟨v10,st10,ev10,rfl,q10⟩:=zR M.fresh (M.UY (k:=0) rfl);refine pg K rfl rfl (Qh rfl ev10) fun _ K=>?_;replace M:=M.quiet q10;refine Qc 2 K M ?_;intro _ K;refine Qq (K.QJ rfl) (fun h5=>?_) (fun h5=>?_)
  ·have hb5:=h5;refine Qc 1 K M ?_;refine⟨congrArg AV.bool ?_,?_,(B.step M).JO⟩
   ·clear M B hr K hT
    cases o<;>simp_all [BD]<;>omega
   ·have hr9:=M.UY (k:=0) rfl
    have e9:([.int .i64 (UP l o n:Nat),.bool (Zw l o n)]:List AV)=[.int .i64 (l:Nat),.bool o]:=by
     clear M B hr K hT hr9
     cases o<;>simp_all [UP,Zw]<;>omega
    show Q4 _ mp 0 [.int .i64 (UP l o n:Nat),.bool (Zw l o n)];rw[e9];exact hr9
  have hb5:=h5;refine Qc 7 K M ?_;intro _ K;refine JS K rfl (fun h12=>?_) fun h12=>?_
  ·refine au 9 K M ?_;intro _ _ K _ M;refine Qc 0 K M ?_;refine⟨congrArg AV.bool ?_,?_,(B.step M).JO⟩
   ·clear M B hr K hT
    cases o<;>simp_all [BD]<;>omega
   ·have hr9:=M.UY (k:=0) rfl
    have e9:([.int .i64 (UP l o n:Nat),.bool (Zw l o n)]:List AV)=[.int .i64 0,.bool true]:=by
     clear M B hr K hT hr9
     cases o<;>simp_all [UP,Zw]<;>omega
    show Q4 _ mp 0 [.int .i64 (UP l o n:Nat),.bool (Zw l o n)];rw[e9];exact hr9
  refine au 10 K M ?_;intro _ _ K _ M;refine Qc 0 K M ?_;refine⟨congrArg AV.bool ?_,?_,(B.step M).JO⟩
  ·clear M B hr K hT
   cases o<;>simp_all [BD]<;>omega
  ·have hr9:=M.UY (k:=0) rfl
   have e9:([.int .i64 (UP l o n:Nat),.bool (Zw l o n)]:List AV)=[.int .i64 ((((l:Nat):Int)-((n:Nat):Int))),.bool o]:=by
    clear M B hr K hT hr9
    cases o<;>simp_all [UP,Zw]<;>omega
   show Q4 _ mp 0 [.int .i64 (UP l o n:Nat),.bool (Zw l o n)];rw[e9];exact hr9
 refine Qc 6 K M ?_;refine⟨congrArg AV.bool ?_,?_,(B.step M).JO⟩
 ·clear M B hr K hT
  cases o<;>simp_all [BD]<;>omega
 ·have hr9:=M.UY (k:=0) rfl
  have e9:([.int .i64 (UP l o n:Nat),.bool (Zw l o n)]:List AV)=[.int .i64 (l:Nat),.bool o]:=by
   clear M B hr K hT hr9
   cases o<;>simp_all [UP,Zw]<;>omega
  show Q4 _ mp 0 [.int .i64 (UP l o n:Nat),.bool (Zw l o n)];rw[e9];exact hr9
end Go.Proofs.YtiknomepbklibaaGreatDoor
end
section
namespace Go.Proofs.YtiknomepbklibaaGreatDoor
open Go Go.RowKit
variable {l mp:Nat} {st:St}

theorem CV(hf:Qj st)(n:Int): ∃v st',Ev Tryz.prog Q5 46 [iZ n] st v st'∧ ∃mp,v=.ptr mp 0 0∧st.n≤mp∧Q4 st'.h.get mp 0 [iZ (n.toNat:Nat),.bool false]∧Qt st st':=by
 refine JI Tryz.func46 Tryz.ntmps46 fun T K=>?_;have M:=Mem.start hf;refine Qc 2 K M ?_;intro _ K;refine p1 K (jq rfl rfl) fun _ K=>?_;refine au 3 K M ?_;intro c6 _ _ K _ M;refine Qc 0 K M ?_;refine⟨c6,rfl,(M.own c6 0 _ (List.mem_cons_self ..)).resolve_right QA,?_,M.qt⟩;have hr9:=M.UY (k:=0) rfl
 rwa [show max 0 n=((n.toNat:Nat):Int) by omega]at hr9

theorem LI(hf:Qj st){o:Bool}(hr:Q4 st.h.get mp 0 [.int .i64 (l:Nat),.bool o])(hl:l≤9223372036854775807)(n:Nat)(hn:n≤9223372036854775807): ∃v st',Ev Tryz.prog Q5 72 [.ptr mp 0 0,.int .i64 (n:Nat)] st v st'∧v=.bool (BD l o n)∧(UZ mp (UP l o n) (Zw l o n)).H st'.h.get∧UR (fun c=>c=mp) st st':=by
 have B:=Qk.Hn hf hr;refine BO rfl Tryz.func72 rfl Tryz.ntmps72 rfl fun T hT=>?_;have K:QZ [(0,_),(1,_)] T:=(.cons (hT 0) (.cons (hT 1) .nil));have M:=B.mem;refine Qc 3 K M ?_;intro _ K;refine Un K (Qg rfl) rfl (fun _ e7 K=>?_) fun _ e7 K=>?_
 ·refine Qc 5 K M ?_;intro _ K;refine Qq (K.QJ rfl) (fun h12=>?_) (fun h12=>?_)
  ·have hb12:=h12;refine Qc 1 K M ?_;refine⟨congrArg AV.bool ?_,?_,(B.step M).JO⟩
   ·clear M B hr K hT
    cases o<;>simp_all [BD]<;>omega
   ·have hr9:=M.UY (k:=0) rfl
    have e9:([.int .i64 (UP l o n:Nat),.bool (Zw l o n)]:List AV)=[.int .i64 (l:Nat),.bool o]:=by
     clear M B hr K hT hr9
     cases o<;>simp_all [UP,Zw]<;>omega
    show Q4 _ mp 0 [.int .i64 (UP l o n:Nat),.bool (Zw l o n)];rw[e9];exact hr9
  have hb12:=h12;refine Qc 6 K M ?_;intro _ K;refine JS K rfl (fun h18=>?_) fun h18=>?_
  ·refine au 9 K M ?_;intro _ _ K _ M;refine Qc 0 K M ?_;refine⟨congrArg AV.bool ?_,?_,(B.step M).JO⟩
   ·clear M B hr K hT
    cases o<;>simp_all [BD]<;>omega
   ·have hr9:=M.UY (k:=0) rfl
    have e9:([.int .i64 (UP l o n:Nat),.bool (Zw l o n)]:List AV)=[.int .i64 0,.bool true]:=by
     clear M B hr K hT hr9
     cases o<;>simp_all [UP,Zw]<;>omega
    show Q4 _ mp 0 [.int .i64 (UP l o n:Nat),.bool (Zw l o n)];rw[e9];exact hr9
  refine au 11 K M ?_;intro _ _ K _ M;refine Qc 0 K M ?_;refine⟨congrArg AV.bool ?_,?_,(B.step M).JO⟩
  ·clear M B hr K hT
   cases o<;>simp_all [BD]<;>omega
  ·have hr9:=M.UY (k:=0) rfl
   have e9:([.int .i64 (UP l o n:Nat),.bool (Zw l o n)]:List AV)=[.int .i64 ((((l:Nat):Int)-((n:Nat):Int))),.bool o]:=by
    clear M B hr K hT hr9
    cases o<;>simp_all [UP,Zw]<;>omega
   show Q4 _ mp 0 [.int .i64 (UP l o n:Nat),.bool (Zw l o n)];rw[e9];exact hr9
 refine Qc 7 K M ?_;refine⟨congrArg AV.bool ?_,?_,(B.step M).JO⟩
 ·clear M B hr K hT
  cases o<;>simp_all [BD]<;>omega
 ·have hr9:=M.UY (k:=0) rfl
  have e9:([.int .i64 (UP l o n:Nat),.bool (Zw l o n)]:List AV)=[.int .i64 (l:Nat),.bool o]:=by
   clear M B hr K hT hr9
   cases o<;>simp_all [UP,Zw]<;>omega
  show Q4 _ mp 0 [.int .i64 (UP l o n:Nat),.bool (Zw l o n)];rw[e9];exact hr9

theorem CU(hf:Qj st)(hr:Q4 st.h.get mp 0 [.int .i64 (l:Nat),.bool false])(hl:l≤9223372036854775807)(n:Nat)(hn:n≤l): ∃v st',Ev Tryz.prog Q5 72 [.ptr mp 0 0,.int .i64 (n:Nat)] st v st'∧v=.bool true∧(UZ mp (l-n) false).H st'.h.get∧UR (fun c=>c=mp) st st':=by
 obtain⟨v,st',h1,h2,h3,h4⟩:=LI hf hr hl n Qe;exact⟨v,st',h1,by rw[h2,SO hn],by rw[H3 hn]at h3;exact h3,h4⟩

theorem VL(hf:Qj st)(hr:Q4 st.h.get mp 0 [iN l,.bool false])(hl1:1≤l)(hl:l≤9223372036854775807)(n:Nat): ∃v st',Ev Tryz.prog Q5 44 [.ptr mp 0 0,iN n] st v st'∧v=.bool (decide ((n:Int)≤400))∧(UZ mp (l-1) false).H st'.h.get∧UR (fun c=>c=mp) st st':=by
 have B:=Qk.UM (o:=UZ mp l false) hf hr (fun c hc=>(show c=mp from hc)▸hr.lt hf);refine JI Tryz.func44 Tryz.ntmps44 fun T K=>?_;have M:=B.mem;refine Qc 2 K M ?_;intro _ K;replace B:=B.step M;obtain⟨v6,st6,ev6,rfl,hm3,Q3⟩:=CU B.fresh (B.at_ (k:=0) rfl) hl 1 hl1;refine p1 K (Qh rfl ev6) fun _ K=>?_;replace B:=B.call (k:=0) (o':=UZ mp (l-1) false) rfl Q3 hm3 (fun c hc=>⟨.inl hc,Nat.lt_of_lt_of_le (B.Yw (k:=0) rfl c hc) Q3.le⟩);have M:=B.mem;refine Qc 5 K M ?_;replace B:=B.step M;exact⟨rfl,B.at_ (k:=0) rfl,B.JO⟩

end Go.Proofs.YtiknomepbklibaaGreatDoor
end
section
namespace Go.Proofs.YtiknomepbklibaaGreatDoor
open Go Go.RowKit
variable {LL:List (List Int)} {fa fc:List AV} {fo:FuncId} {kL:AV} {lL:List (List AV)} {st:St}

theorem Yp.qt{st':St}(hf:Qj st)(q:Qt st st'){c m:Nat}{l:List AV}(r:Yp st.h.get c m l):Yp st'.h.get c m l:=r.Of hf (q.Of []) QA
theorem GA(hf:Qj st){l:List Bool}{kl:AV}(hl:Jk st.h.get [] 1 (bC l) kl)(hn:l.length≤1000000): ∃v st',Ev Tryz.prog Q5 48 [kl] st v st'∧ ∃ks,v=ks∧Ep st st' 1 ks (bC l)∧Qt st st':=by
 have hcl:=Jy l;refine JI Tryz.func48 Tryz.ntmps48 fun T K=>?_;have M:=Mem.start hf;refine Qc 2 K M ?_;intro _ K;refine p1 K (Ge (hl.len.trans (congrArg some (Jy _))) Ux rfl rfl) fun _ K=>Uo ?_;show W _ _ _ _ _ _ _;refine Qq (K.QJ rfl) (fun h4=>?_) (fun h4=>?_)
 ·have hb4:=h4;refine Qc 1 K M ?_
  have hbl:l=[]:=by
   have h:=hl.len;rw[SK h4]at h
   injection h with h
   rw[Jy]at h;exact Zb h.symm
  exact⟨.nils,rfl,⟨[],by rw[hbl];exact .none,fun _ _ _ h=>by cases h⟩,M.qt⟩
 have hb4:=h4;refine au 2 K M ?_;intro c5 _ _ K _ M;replace M:=Mem.cast (M':=([(c5,0,[])]++[])) (Mem.perm M (List.perm_append_comm (α:=Nat×Nat×List AV) (l₁:=[(c5,0,[])]) (l₂:=[]))) Uu;have hA0c5:Acc st.n 1 [(c5,0,[])] (.sl c5 0 0 0 1) []:=Acc.own (n0:=st.n) (z:=1) (c:=c5) (m:=0) (ls:=[]) ((M.own c5 0 [] QA).resolve_right QA) QA QA;refine Sc (L:=[]) (A:=[(c5,0,[])]) (B:=[]) K M hA0c5 J5 rfl rfl (Jk.mem M hl QA) (yk _) (by simp only[List.length_nil];omega) rfl fun ks7 A7 _ _ K hA7 M=>?_;refine Qc 1 K M ?_;refine⟨_,rfl,?_,M.qt⟩;have h:=Mem.B5 (L:=[]) (A:=A7) (B:=[]) M hA7
 simpa using h

theorem MD(hf:Qj st)(hLL:Ll st.h.get LL kL lL){p:List Int→Bool}(hC: ∀(s:List Int) (w:AV) (st1:St),s∈LL→Qt st st1→Jk st1.h.get [] 1 (zC s) w→ ∃v st',Ev Tryz.prog Q5 fo (fa++([w]++fc)) st1 v st'∧v=.bool (p s)∧Qt st1 st'): ∃v st',Ev Tryz.prog Q5 124 [kL,(AV.fn fo fa fc)] st v st'∧v=iZ (I0 p LL 0)∧Qt st st':=by
 have hLb:=hLL.r.E0;rw[hLL.ln]at hLb;refine JI Tryz.func124 Tryz.ntmps124 fun T K=>?_;have M:=Mem.start hf;refine Qc 2 K M ?_;intro _ K;refine p1 K (Q8 J6 rfl rfl hLL.len) fun _ K=>?_;refine Qc 1 K M ?_;intro _ K;refine Je (fun mm1 T st9=> ∃(i:Nat),mm1=LL.length-i∧QZ [(0,kL),(1,(AV.fn fo fa fc)),(7,iZ (LL.length:Nat)),(8,iN i)] T∧Mem st.h.get st.n [] st9 []∧i≤LL.length∧I0 p LL 0=I0 p (LL.drop i) i) (fun mm1 T st9 hI=>?_) _ _ _ ⟨0,rfl,(K.sub rfl),M.less (.refl _),(Nat.zero_le _),rfl⟩;obtain⟨i,rfl,K,M,hi,hx⟩:=hI;refine Qc 1 K M ?_;intro _ K;refine JS K rfl (fun h9=>?_) fun h9=>?_
 ·refine Qc 5 K M ?_;intro _ K;obtain⟨s14,hi14⟩:=U9 LL i Qe;obtain⟨_,hc14,w14,rfl,hr14,hz14⟩:=hLL.at_ _ _ hi14;obtain⟨x14,m14,f14,q14,_,la14,lo14,lp14⟩:=(Jk.mem M hLL.r QA).load (i:=i) (cs:=_) hc14;refine p1 K (Qb (j:=i) QY (congrArg some q14) rfl (by rw[hLL.ln];omega)) fun _ K=>p1 K (Qd rfl (lo14 _ 0 _ Ja rfl)) fun _ K=>?_;obtain⟨v16,st16,ev16,rfl,q16⟩:=hC s14 _ _ (List.mem_of_getElem? hi14) M.qt (Jk.mem M hr14 QA);refine p1 K (Xa rfl rfl ev16) fun _ K=>?_;replace M:=M.quiet q16;refine Uo ?_;show W _ _ _ _ _ _ _;refine Qq (K.QJ rfl) (fun h16=>?_) (fun h16=>?_)
  ·have hb16:=h16;refine Qc 2 K M ?_;exact⟨by rw[hx,AH hi14,if_pos h16],M.qt⟩
  have hb16:=h16;refine Qc 2 K M ?_;intro _ K;exact⟨_,Qe,i+1,rfl,(K.sub rfl),M.less (.refl _),Qe,(by rw[hx,AH hi14,if_neg (by rw[h16];decide)])⟩
 refine QW ?_;show W _ _ _ _ _ _ _;refine Qc 1 K M ?_;exact⟨by rw[hx,DB Qe],M.qt⟩

theorem BW(hf:Qj st)(hLL:Ll st.h.get LL kL lL){p:List Int→Bool}(hC: ∀(s:List Int) (w:AV) (st1:St),s∈LL→Qt st st1→Jk st1.h.get [] 1 (zC s) w→ ∃v st',Ev Tryz.prog Q5 fo (fa++([w]++fc)) st1 v st'∧v=.bool (p s)∧Qt st1 st'): ∃v st',Ev Tryz.prog Q5 92 [kL,(AV.fn fo fa fc)] st v st'∧v=.bool (LL.any p)∧Qt st st':=by
 have hLb:=hLL.r.E0;rw[hLL.ln]at hLb;refine JI Tryz.func92 Tryz.ntmps92 fun T K=>?_;have M:=Mem.start hf;refine Qc 3 K M ?_;intro _ K;refine oQ K M (MD M.fresh (hLL.J8 hf fun c hc=>M.J8 c hc QA) (fun s w st1 hs q hr=>hC s w st1 hs (M.qt.trans q) hr)) rfl rfl fun _ _ K M=>?_;refine Qc 2 K M ?_;exact⟨by rw[←DC p LL 0],M.qt⟩

theorem BV(hf:Qj st)(hLL:Ll st.h.get LL kL lL)(hC: ∀(s:List Int) (w:AV) (st1:St),s∈LL→Qt st st1→Jk st1.h.get [] 1 (zC s) w→ ∃v st',Ev Tryz.prog Q5 fo (fa++([w]++fc)) st1 v st'∧v=.bool false∧Qt st1 st'): ∃v st',Ev Tryz.prog Q5 92 [kL,.fn fo fa fc] st v st'∧v=.bool false∧Qt st st':=by
 obtain⟨v,st',h1,h2,h3⟩:=BW (p:=fun _=>false) hf hLL hC;exact⟨v,st',h1,by rw[h2];simp,h3⟩

theorem wj(hf:Qj st){cn:Nat}{n x:Int}(hc:Yp st.h.get cn 0 [iZ n])(h1:0≤x)(h2:x<n): ∃v st',Ev Tryz.prog Q5 91 [iZ x,.ptr cn 0 0] st v st'∧v=.bool false∧Qt st st':=by
 refine JI Tryz.func91 Tryz.ntmps91 fun T K=>?_;have M:=Mem.start hf;refine Qc 3 K M ?_;intro _ K;refine Un K (Qg rfl) rfl (fun _ e6 K=>?_) fun _ e6 K=>?_
 ·refine Qc 1 K M ?_;intro _ K;refine pg K rfl rfl (Qd rfl (Q0 (M.JK QA hc) (Qf Qr rfl))) fun _ K=>?_;refine Qc 3 K M ?_;exact⟨congrArg AV.bool (decide_eq_false Qe),M.qt⟩
 exfalso;omega

theorem wi(hf:Qj st){a:Au}(wf:Zt a){ka kn:AV}{ca cf cn:Nat}(hca:Yp st.h.get ca 0 [iZ (a.tr:Nat),ka,kn])(hcf:Yp st.h.get cf 0 [.fn 91 [] [.ptr cn 0 0]])(hcn:Yp st.h.get cn 0 [iZ (a.n:Nat)]){r:List Int}{kl:AV}(hm:r∈a.nx)(hl:Jk st.h.get [] 1 (zC r) kl): ∃v st',Ev Tryz.prog Q5 93 [kl,.ptr ca 0 0,.ptr cf 0 0] st v st'∧v=.bool false∧Qt st st':=by
 obtain⟨hr1,hr2⟩:=wf.row r hm;have hp:=JH wf.tr;have hr1':r.length=2^a.tr:=hr1;have htr:=wf.tr;refine JI Tryz.func93 Tryz.ntmps93 fun T K=>?_;have M:=Mem.start hf;refine Qc 2 K M ?_;intro _ K;refine p1 K (Q8 Jr rfl rfl (hl.len.trans (congrArg some (Qn _)))) fun _ K=>?_;refine Qc 1 K M ?_;intro _ K;refine p1 K (Qd rfl (Q0 (M.JK QA hca) (Qf Qr rfl))) fun _ K=>p1 K (Y5 (n:=a.tr) rfl rfl Qe) fun _ K=>?_;refine Qc 1 K M ?_;intro _ K;refine oB K (Qg rfl) rfl fun b11 _ e11 K=>?_;cases b11
 ·replace e11:(((r.length:Nat):Int)=((2^a.tr:Nat):Int)):=by simpa using e11
  refine Qc 1 K M ?_;intro _ K;refine pg K rfl rfl (Qd rfl (Q0 (M.JK QA hcf) (Qf Hh rfl))) fun _ K=>?_;obtain⟨v14,st14,ev14,rfl,q14⟩:=HQ (fo:=91) (fa:=[]) (fc:=[.ptr cn 0 0]) M.fresh (Jk.mem M hl QA) Qe (fun x hx st1 q=>wj q.fresh ((hcn.qt hf M.qt).qt M.fresh q) (hr2 x hx).1 (hr2 x hx).2);refine pg K rfl rfl (Qh rfl ev14) fun _ K=>?_;replace M:=M.quiet q14;refine Qc 2 K M ?_;exact⟨rfl,M.qt⟩
 replace e11: ¬(((r.length:Nat):Int)=((2^a.tr:Nat):Int)):=by simpa using e11
 exfalso;omega

theorem wN(hf:Qj st){a:Au}(wf:Zt a){ka kn:AV}{ls:List (List AV)}(hA:Jk st.h.get [] 1 (bC a.acc) ka)(hN:Ll st.h.get a.nx kn ls): ∃v st',Ev Tryz.prog Q5 69 [.agg [iZ (a.tr:Nat),ka,kn]] st v st'∧v=.bool true∧Qt st st':=by
 have htr:=wf.tr;have hps:=wf.pos;have hmo:=wf.most;have hln:=wf.len;have hen:a.n=a.acc.length:=rfl;have hac:=hA.cell;have hnc:=hN.r.cell;refine JI Tryz.func69 Tryz.ntmps69 fun T K=>?_;have M:=Mem.start hf;refine QD<|Qv ?_;refine Jv K M rfl (Qa rfl (Qa hA.cell (Qa hN.r.cell Qz))) QE fun c1 _ _ K M=>?_;refine Qc 3 K M ?_;intro _ K;refine p1 K (Q8 Ux rfl rfl (hA.len.trans (congrArg some (Jy _)))) fun _ K=>?_;refine au 5 K M ?_;intro c3 _ _ K _ M;refine Un K (Qg rfl) rfl (fun _ e11 K=>?_) fun _ e11 K=>?_
 ·refine Qc 4 K M ?_;intro _ K;refine Un K (Qg rfl) rfl (fun _ e16 K=>?_) fun _ e16 K=>?_
  ·refine Qc 3 K M ?_;intro _ K;refine Un K (Qg rfl) rfl (fun _ e20 K=>?_) fun _ e20 K=>?_
   ·refine Qc 3 K M ?_;intro _ K;refine Un K (Qg rfl) rfl (fun _ e24 K=>?_) fun _ e24 K=>?_
    ·refine Qc 1 K M ?_;intro _ K;refine pg K rfl rfl (Qd rfl (M.load (k:=1) rfl (Qf Q6 rfl))) fun _ K=>pg K rfl rfl (Q8 J6 rfl rfl hN.len) fun _ K=>?_;refine Qc 3 K M ?_;intro _ K;refine vd K rfl (fun h30=>?_) fun h30=>?_
     ·exfalso;omega
     refine Qc 0 K M ?_;intro _ K;refine p1 K (X4 rfl rfl) fun _ K=>?_;refine Ln K M Hd QE fun c4 _ _ K M=>?_;refine QS (k:=0) K M rfl rfl rfl Hl rfl rfl rfl fun _ M=>?_;refine Qc 1 K M ?_;intro _ K;refine p1 K (Qd rfl (M.load (k:=2) rfl (Qf Q6 rfl))) fun _ K=>p1 K (X4 rfl rfl) fun _ K=>?_;have hrw1:=(M.UY (k:=2) rfl).Jf;have hrw3:=(M.UY (k:=1) rfl).Jf;have hrw4:=(M.UY (k:=0) rfl).Jf;have hfr:=M.fresh;refine oQ K M (BV (fo:=93) (fa:=[]) (fc:=[.ptr c1 0 0,.ptr c4 0 0]) M.fresh (hN.J8 hf fun c hc=>M.J8 c hc QA) (fun s w st1 hs q hr=>wi q.fresh wf (hrw1.qt hfr q) (hrw4.qt hfr q) (hrw3.qt hfr q) hs hr)) rfl rfl fun _ _ K M=>?_;refine Qc 2 K M ?_;exact⟨rfl,M.qt⟩
    exfalso;omega
   exfalso;omega
  exfalso;omega
 exfalso;omega
end Go.Proofs.YtiknomepbklibaaGreatDoor
end
section
namespace Go.Proofs.YtiknomepbklibaaGreatDoor
open Go Go.RowKit

abbrev zN(l:List Nat):List Int:=l.map fun r=>((r:Nat):Int)
theorem Hf(l:List Nat)(r:Nat):zN (l++[r])=zN l++[((r:Nat):Int)]:=by simp
section
variable {st0 st:St} {X0:Fp} {M A1 A2:QP} {Os:List Ob} {F1:Fp} {dp sp n0 n1:Nat} {ka kr:AV} {a:Au} {S:UG} {roots:List Nat}
theorem Qk.wC(B:Qk st0 X0 st ((dp,0,[ka,kr,.ptr sp 0 0])::(A1++(A2++M))) (XA F1 sp a.tr S::Os))(hA1:Acc n0 1 A1 ka (bC a.acc))(hA2:Acc n1 1 A2 kr (zC (zN roots)))(wfS:Xq a.tr S)(wf:Zt a)(hl:roots.length=a.n)
  (hr: ∀(s r:Nat),roots[s]? =some r→r<S.length∧a.nx[s]? =some (WU a.tr S r)): ∃F,Qk st0 X0 st M (AW F dp a::Os):=by
 have h1:Jk st.h.get [] 1 (bC a.acc) ka:=Mem.Yl (L:=[(dp,0,[ka,kr,.ptr sp 0 0])]) (A:=A1) (B:=A2++M) B.mem hA1;have h2:Jk st.h.get [] 1 (zC (zN roots)) kr:=Mem.Yl (L:=(dp,0,[ka,kr,.ptr sp 0 0])::A1) (A:=A2) (B:=M) (B.mem.cast QA) hA2;have h0:=B.row dp 0 _ (List.mem_cons_self ..);have B0:Qk st0 X0 st (((dp,0,[ka,kr,.ptr sp 0 0])::(A1++A2))++M) (XA F1 sp a.tr S::Os):=B.cast QA;have B1:=B0.freeze (o:=Xn ((dp,0,[ka,kr,.ptr sp 0 0])::(A1++A2))) (fun c m l hm=>B0.row c m l (List.mem_append_left _ hm)) (fun c hc=>hc)
 have f1:yC (Xn ((dp,0,[ka,kr,.ptr sp 0 0])::(A1++A2))).F ka:=fun c m o n y e=>by
  obtain⟨m,l,h⟩:=hA1.xa c m o n y e;exact⟨m,l,by simp[h]⟩
 have f2:yC (Xn ((dp,0,[ka,kr,.ptr sp 0 0])::(A1++A2))).F kr:=fun c m o n y e=>by
  obtain⟨m,l,h⟩:=hA2.xa c m o n y e;exact⟨m,l,by simp[h]⟩
 refine⟨fun c=>(Xn ((dp,0,[ka,kr,.ptr sp 0 0])::(A1++A2))).F c∨F1 c,B1.join (fun g1 g2=>?_) fun c hc=>hc⟩;exact⟨ka,kr,sp,F1,S,roots,h0,.inl ⟨_,_,List.mem_cons_self ..⟩,h1,fun c m o n y e=>.inl (f1 c m o n y e),h2,fun c m o n y e=>.inl (f2 c m o n y e),g2,fun c hc=>.inr hc,wfS,wf,hl,hr⟩
end
theorem qN{T:Nat}{S S':UG}(W:Xq T S)(h:S<+:S'){r:Nat}(hr:r<S.length):WU T S' r=WU T S r:=by
 unfold WU;exact List.map_congr_left fun c _=>Zr W h hr c
theorem PN{a:Au}{S S':UG}{rs:List Nat}{r i:Nat}{row:List Int}(wfS:Xq a.tr S)(wf':Xq a.tr S')(hp:S<+:S')(hr:r<S'.length)(hl:rs.length=i)(hi:a.nx[i]? =some row)(hrow:row.length=2^a.tr)(he: ∀c,c<2^a.tr→row[c]? =some (Y8 S' r c))
  (h: ∀(s r:Nat),rs[s]? =some r→r<S.length∧a.nx[s]? =some (WU a.tr S r)): ∀(s q:Nat),(rs++[r])[s]? =some q→q<S'.length∧a.nx[s]? =some (WU a.tr S' q):=by
 intro s q hs
 by_cases hlt:s<rs.length
 ·rw[List.getElem?_append_left hlt]at hs;obtain⟨h1,h2⟩:=h s q hs;exact⟨Nat.lt_of_lt_of_le h1 hp.length_le,by rw[h2,qN wfS hp h1]⟩
 ·have h3:=(List.getElem?_eq_some_iff.1 hs).1;rw[List.length_append,List.length_singleton]at h3
  have h4:s=rs.length:=by omega
  subst h4;rw[List.getElem?_append_right (Nat.le_refl _),Nat.sub_self]at hs
  injection hs with hs
  subst hs;exact⟨hr,by rw[hl,hi,zk hrow he]⟩

theorem WL{st:St}(hf:Qj st){a:Au}(wf:Zt a){ka kn:AV}{ls:List (List AV)}(hA:Jk st.h.get [] 1 (bC a.acc) ka)(hN:Ll st.h.get a.nx kn ls): ∃v st',Ev Tryz.prog Q5 43 [.agg [iZ (a.tr:Nat),ka,kn]] st v st'∧ ∃dp F,v=.tup [.ptr dp 0 0,iZ 0]∧Ya st' F dp a∧ZT st st' F∧Qt st st':=by
 have htr:=wf.tr;have hps:=wf.pos;have hmo:=wf.most;have hln:=wf.len;have hen:a.n=a.acc.length:=rfl;have hac:=hA.cell;have hnc:=hN.r.cell;have hp64:=JH wf.tr;have B:=Qk.start hf;refine JI Tryz.func43 Tryz.ntmps43 fun T K=>?_;have M:=B.mem;refine QD<|Qv ?_;refine Jv K M rfl (Qa rfl (Qa hA.cell (Qa hN.r.cell Qz))) QE fun c1 _ _ K M=>?_;refine Qc 3 K M ?_;intro _ K;replace B:=B.step M;obtain⟨v8,st8,ev8,rfl,q8⟩:=wN B.fresh wf (B.Be hf hA) (hN.J8 hf fun c hc=>B.J8 c hc id);refine p1 K (Qh rfl ev8) fun _ K=>?_;replace B:=B.quiet q8;have M:=B.mem;refine Qc 2 K M ?_;intro _ K;refine QF (l:=[(0,0),(1,0),(2,0),(3,0),(4,1),(5,0),(6,0),(7,0),(8,0)]) (by kernel_rfl) ?_;have Mq:=M;refine Jc 2 K M ?_;intro _ K;obtain⟨v12,st12,ev12,ks12,rfl,nr12,q12⟩:=GA M.fresh ((B.step M).Be hf hA) Qe;refine qA rfl K (Qh rfl ev12) fun _ K=>?_;obtain⟨A12,hA12,M⟩:=M.Yv q12 nr12;simp only[List.append_assoc,List.cons_append,List.nil_append,List.set_cons_zero,List.set_cons_succ]at M;have Mp:=Mq;have Mq:=M;refine Jc 1 K M ?_;intro _ K;refine Jl rfl K rfl (M.load (k:=0) rfl (Qf Qr rfl)) (Mp.load (k:=0) rfl (Qf Qr rfl)) (JU rfl) rfl QE fun _ K=>?_;replace B:=B.step M;obtain⟨v15,st15,ev15,sp,F15,rfl,hS15,nf15,q15⟩:=Tx B.fresh wf.tr;refine qA rfl K (Qh rfl ev15) fun _ K=>?_;replace B:=B.new (o:=XA F15 sp a.tr []) q15 hS15.at_ nf15;have M:=B.mem;have Mp:=Mq;have Mq:=M;refine q1 rfl K (W3 IX rfl ((JC rfl hA12.cell rfl).trans ((AJ rfl rfl rfl).trans rfl))) fun _ K=>?_;refine vc rfl K M rfl (Qa hA12.cell (Qa rfl (Qa rfl Qz))) rfl fun c17 _ _ K M=>?_;refine q1 rfl K (U6 rfl) fun _ K=>QH ?_;show W _ _ _ _ _ _ _;refine Qc 1 K M ?_;intro _ K;refine p1 K (Qd rfl (M.load (k:=1) rfl (Qf Q6 rfl))) fun _ K=>p1 K (Q8 J6 rfl rfl hN.len) fun _ K=>?_;refine Qc 1 K M ?_;intro _ K;refine Je (fun mm1 T st9=> ∃(i:Nat) (rs:List Nat) (kr:AV) (A:QP) (F:Fp) (S:UG),mm1=a.nx.length-i∧QZ [(2,.nilp),(3,iZ 0),(4,.ptr c17 0 0),(19,kn),(20,iZ (a.nx.length:Nat)),(21,iN i)] T∧Qk st Xu st9 ((c17,0,[v12,kr,.ptr sp 0 0])::(c1,0,[iZ (a.tr:Nat),ka,kn])::(A12++(A++[]))) [XA F sp a.tr S]∧Acc 0 1 A kr (zC (zN rs))∧i≤a.nx.length∧rs.length=i∧Xq a.tr S∧S.length≤i *127∧(∀(s r:Nat),rs[s]? =some r→r<S.length∧a.nx[s]? =some (WU a.tr S r))) (fun mm1 T st9 hI=>?_) _ _ _ ⟨0,[],.nils,[],_,[],rfl,(K.sub rfl),(B.step M).less (.refl _),.none,(Nat.zero_le _),rfl,(Xq.nil _),(Nat.zero_le _),(fun s r h=>by simp at h)⟩;obtain⟨i,rs,kr,A,F,S,rfl,K,B,hA4,hi,hrl,wfS,hSl,hrs⟩:=hI;have M:=B.mem;refine Qc 1 K M ?_;intro _ K;refine JS K rfl (fun h22=>?_) fun h22=>?_
 ·refine Qc 0 K M ?_;intro _ K;obtain⟨s23,hi23⟩:=U9 a.nx i Qe;obtain⟨_,hc23,w23,rfl,hr23,hz23⟩:=hN.at_ _ _ hi23;obtain⟨x23,m23,f23,q23,_,la23,lo23,lp23⟩:=((B.step M).Be hf hN.r).load (i:=i) (cs:=_) hc23;refine p1 K (Qb (j:=i) QY (congrArg some q23) rfl (by rw[hN.ln];omega)) fun _ K=>p1 K (Qd rfl (lo23 _ 0 _ Ja rfl)) fun _ K=>?_;refine Qc 1 K M ?_;intro _ K;refine QF (l:=[(5,0),(6,0),(7,0),(8,0),(9,0),(10,0),(1,0),(2,0),(3,0),(4,1),(11,0),(12,0),(0,0),(13,0),(14,0),(15,0)]) (by kernel_rfl) ?_;have Mq:=M;refine Jc 5 K M ?_;intro _ K;replace B:=B.step M;have hs24:=wf.row s23 (List.mem_of_getElem? hi23)
  have hlB:(S.length:Nat)+(2^(a.tr-0+1)-1)≤1000000000:=by rw[Nat.sub_zero,Nat.pow_succ];omega
  obtain⟨v35,st35,ev35,r35,S35,rfl,ho35,mb35,hev35⟩:=yg B.fresh (B.IW (k:=0) rfl) wf.tr wfS hlB (B.Be hf hr23) (B.off (k:=0) rfl hf hr23 fun _ _ _ _ _ _=>id) hs24.1 (fun x hx=>by have:=hs24.2 x hx;omega);refine qA rfl K (Qh rfl ev35) fun _ K=>?_;obtain⟨F35,B⟩:=B.VR ho35;have M:=B.mem;have Mp:=Mq;have Mq:=M;refine Jc 3 K M ?_;intro _ K;refine Jl rfl K rfl (M.load (k:=0) rfl (Qf Ja rfl)) (Mp.load (k:=0) rfl (Qf Ja rfl)) (JU (Ju hA4.len)) rfl QE fun _ K=>?_;refine Xk rfl K M QM Vs rfl rfl rfl rfl rfl fun c36 _ _ K M=>?_;refine X8 (k2:=0) (L:=((c36,0,[iN r35])::(c17,0,[v12,kr,.ptr sp 0 0])::(c1,0,[iZ (a.tr:Nat),ka,kn])::(A12++[]))) (A:=A) (B:=[]) rfl K (Mem.cast (M:=((c36,0,[iN r35])::(c17,0,[v12,kr,.ptr sp 0 0])::(c1,0,[iZ (a.tr:Nat),ka,kn])::(A12++(A++[])))) (M':=((c36,0,[iN r35])::(c17,0,[v12,kr,.ptr sp 0 0])::(c1,0,[iZ (a.tr:Nat),ka,kn])::(A12++[]))++(A++[])) M Uu) hA4 QM rfl rfl rfl rfl (by simp only[Qn,List.length_map];omega) rfl fun ks37 A37 _ _ K hA37 M=>?_;simp only[List.append_assoc,List.cons_append,List.nil_append,List.set_cons_zero,List.set_cons_succ]at M;have Mp:=Mq;have Mq:=M;refine Jc 3 K M ?_;intro _ K;refine Zi (k:=1) rfl K M rfl rfl rfl C9 (hA37.cell) rfl fun _ M=>?_;have Mp:=Mq;have Mq:=M;refine QH ?_;show W _ _ _ _ _ _ _;refine Qc 2 K M ?_;intro _ K;exact⟨_,Qe,i+1,rs++[r35],ks37,A37,_,S35,rfl,(K.sub rfl),(B.step M).less (.cons _ (.refl _)),(by rw[Hf,JY];exact hA37),Qe,(by rw[List.length_append,hrl];rfl),mb35.wf,(by have:=mb35.len;rw[Nat.pow_succ]at this;omega),(PN wfS mb35.wf mb35.pre mb35.lt hrl hi23 hs24.1 hev35 hrs)⟩
 refine QW ?_;show W _ _ _ _ _ _ _;refine Qc 3 K M ?_;obtain⟨F',B'⟩:=Qk.wC (M:=[]) (((B.step M).less ((.cons_cons _ (.cons _ (.refl _)))))) hA12 hA4 wfS wf Qe hrs;exact⟨_,F',rfl,B'.Tl (k:=0) rfl,B'.jP (k:=0) rfl,B'.qt⟩
end Go.Proofs.YtiknomepbklibaaGreatDoor
end
section
namespace Go.Proofs.YtiknomepbklibaaGreatDoor
open Go Go.RowKit
variable {s:Nat}

theorem Fy{l:List Nat}{i r:Nat}(h:l[i]? =some r):(zC (zN l))[i]? =some [.int .i64 (r:Nat)]:=Jt (by rw[List.getElem?_map,h];rfl)
theorem Au.LW{a:Au}{b:Bool}(h:a.acc[s]? =some b):a.ok s=b:=by unfold Au.ok;rw[h];rfl
structure KO(st:St)(F:Fp)(dp:Nat)(a:Au)(ka kr:AV)(sp:Nat)(F1:Fp)(S:UG)(roots:List Nat):Prop where
 row:Q4 st.h.get dp 0 [ka,kr,.ptr sp 0 0]
 dpF:F dp
 acc:Jk st.h.get [] 1 (bC a.acc) ka
 accF:yC F ka
 rt:Jk st.h.get [] 1 (zC (zN roots)) kr
 rtF:yC F kr
 IW:Az st.h.get F1 sp a.tr S
 sub: ∀c,F1 c→F c
 wfS:Xq a.tr S
 wf:Zt a
 len:roots.length=a.n
 rts: ∀(s r:Nat),roots[s]? =some r→r<S.length∧a.nx[s]? =some (WU a.tr S r)
 hi: ∀c,F c→c<st.n
theorem Ya.x{st:St}{F:Fp}{dp:Nat}{a:Au}(hD:Ya st F dp a): ∃ka kr sp F1 S roots,KO st F dp a ka kr sp F1 S roots:=by
 obtain⟨ka,kr,sp,F1,S,roots,h1,h2,h3,h4,h5,h6,h7,h8,h9,h10,h11,h12⟩:=hD.at_;exact⟨ka,kr,sp,F1,S,roots,h1,h2,h3,h4,h5,h6,h7,h8,h9,h10,h11,h12,hD.hi⟩
section
variable {st st':St} {F:Fp} {dp:Nat} {a:Au} {ka kr:AV} {sp:Nat} {F1:Fp} {S:UG} {roots:List Nat}
theorem KO.q(hX:KO st F dp a ka kr sp F1 S roots)(q:Qt st st'):KO st' F dp a ka kr sp F1 S roots:=by
 have e: ∀c,F c→st'.h.get c=st.h.get c:=fun c hc=>q.J8 c (hX.hi c hc);exact⟨hX.row.frame (e dp hX.dpF),hX.dpF,hX.acc.frame fun c m o n y e'=>e c (hX.accF c m o n y e'),hX.accF,hX.rt.frame fun c m o n y e'=>e c (hX.rtF c m o n y e'),hX.rtF,hX.IW.frame fun c hc=>e c (hX.sub c hc),hX.sub,hX.wfS,hX.wf,hX.len,hX.rts,fun c hc=>Nat.lt_of_lt_of_le (hX.hi c hc) q.le⟩
theorem KO.i(hX:KO st F dp a ka kr sp F1 S roots):Z0 st F1 sp a.tr S:=⟨hX.IW,fun c hc=>hX.hi c (hX.sub c hc)⟩
end
theorem MR{st:St}(hf:Qj st){F:Fp}{dp:Nat}{a:Au}{ka kr:AV}{sp:Nat}{F1:Fp}{S:UG}{roots:List Nat}(hX:KO st F dp a ka kr sp F1 S roots): ∃v st',Ev Tryz.prog Q5 63 [.ptr dp 0 0] st v st'∧v=.ptr sp 0 0∧Qt st st':=by
 have wf:=hX.wf;have hen:a.n=a.acc.length:=rfl;have hrl:=hX.len;refine JI Tryz.func63 Tryz.ntmps63 fun T K=>?_;have M:=Mem.start hf;refine Qc 2 K M ?_;intro _ K;refine p1 K (Y6 JP rfl rfl) fun _ K=>?_;refine Qc 4 K M ?_;intro _ K;refine p1 K (Qd rfl (Q0 (M.JK QA hX.row.Jf) (Qf JM rfl))) fun _ K=>?_;refine Qc 1 K M ?_;exact⟨rfl,M.qt⟩

theorem NF{st:St}(hf:Qj st){F:Fp}{dp:Nat}{a:Au}{ka kr:AV}{sp:Nat}{F1:Fp}{S:UG}{roots:List Nat}(hX:KO st F dp a ka kr sp F1 S roots): ∃v st',Ev Tryz.prog Q5 38 [.ptr dp 0 0] st v st'∧v=iZ (a.tr:Nat)∧Qt st st':=by
 have wf:=hX.wf;have hen:a.n=a.acc.length:=rfl;have hrl:=hX.len;refine JI Tryz.func38 Tryz.ntmps38 fun T K=>?_;have M:=Mem.start hf;refine Qc 2 K M ?_;intro _ K;refine oQ K M (MR M.fresh (hX.q M.qt)) rfl rfl fun _ _ K M=>?_;refine oQ K M (Eo M.fresh (hX.q M.qt).i) rfl rfl fun _ _ K M=>?_;refine Qc 1 K M ?_;exact⟨rfl,M.qt⟩

theorem Xw{st:St}(hf:Qj st){F:Fp}{dp:Nat}{a:Au}(hD:Ya st F dp a): ∃v st',Ev Tryz.prog Q5 38 [.ptr dp 0 0] st v st'∧v=.int .i64 (a.tr:Nat)∧Qt st st':=by
 obtain⟨_,_,_,_,_,_,hX⟩:=hD.x;exact NF hf hX

theorem NG{st:St}(hf:Qj st){F:Fp}{dp:Nat}{a:Au}{ka kr:AV}{sp:Nat}{F1:Fp}{S:UG}{roots:List Nat}(hX:KO st F dp a ka kr sp F1 S roots): ∃v st',Ev Tryz.prog Q5 25 [.ptr dp 0 0] st v st'∧v=iZ (a.n:Nat)∧Qt st st':=by
 have wf:=hX.wf;have hen:a.n=a.acc.length:=rfl;have hrl:=hX.len;refine JI Tryz.func25 Tryz.ntmps25 fun T K=>?_;have M:=Mem.start hf;refine Qc 2 K M ?_;intro _ K;refine p1 K (Y6 JP rfl rfl) fun _ K=>?_;refine Qc 4 K M ?_;intro _ K;refine p1 K (Qd rfl (Q0 (M.JK QA hX.row.Jf) (Qf Us rfl))) fun _ K=>p1 K (Q8 Ux rfl rfl (hX.acc.len.trans (congrArg some (Jy _)))) fun _ K=>?_;refine Qc 1 K M ?_;exact⟨rfl,M.qt⟩

theorem G4{st:St}(hf:Qj st){F:Fp}{dp:Nat}{a:Au}(hD:Ya st F dp a): ∃v st',Ev Tryz.prog Q5 25 [.ptr dp 0 0] st v st'∧v=.int .i64 (a.n:Nat)∧Qt st st':=by
 obtain⟨_,_,_,_,_,_,hX⟩:=hD.x;exact NG hf hX

theorem wv{st:St}(hf:Qj st){F:Fp}{dp:Nat}{a:Au}{ka kr:AV}{sp:Nat}{F1:Fp}{S:UG}{roots:List Nat}(hX:KO st F dp a ka kr sp F1 S roots)(hs:s<a.n): ∃v st',Ev Tryz.prog Q5 55 [.ptr dp 0 0,iN s] st v st'∧v=.bool true∧Qt st st':=by
 have wf:=hX.wf;have hen:a.n=a.acc.length:=rfl;have hrl:=hX.len;refine JI Tryz.func55 Tryz.ntmps55 fun T K=>?_;have M:=Mem.start hf;refine Qc 3 K M ?_;intro _ K;refine Un K (Qg rfl) rfl (fun _ e7 K=>?_) fun _ e7 K=>?_
 ·exfalso;omega
 refine Qc 2 K M ?_;intro _ K;obtain⟨v10,st10,ev10,rfl,q10⟩:=NG M.fresh (hX.q M.qt);refine pg K rfl rfl (Qh rfl ev10) fun _ K=>?_;replace M:=M.quiet q10;refine Qc 3 K M ?_;exact⟨congrArg AV.bool (decide_eq_true Qe),M.qt⟩

theorem DT{st:St}(hf:Qj st){F:Fp}{dp:Nat}{a:Au}{ka kr:AV}{sp:Nat}{F1:Fp}{S:UG}{roots:List Nat}(hX:KO st F dp a ka kr sp F1 S roots)(hs:s<a.n): ∃v st',Ev Tryz.prog Q5 26 [.ptr dp 0 0,iN s] st v st'∧v=.bool (a.ok s)∧Qt st st':=by
 have wf:=hX.wf;have hen:a.n=a.acc.length:=rfl;have hrl:=hX.len;have hsa:s<a.acc.length:=hs;refine JI Tryz.func26 Tryz.ntmps26 fun T K=>?_;have M:=Mem.start hf;refine Qc 3 K M ?_;intro _ K;refine oQ K M (wv M.fresh (hX.q M.qt) hs) rfl rfl fun _ _ K M=>?_;refine Qc 4 K M ?_;intro _ K;refine pg K rfl rfl (Qd rfl (Q0 (M.JK QA hX.row.Jf) (Qf Us rfl))) fun _ K=>?_;refine Qc 1 K M ?_;intro _ K;obtain⟨y14,hi14⟩:=U9 a.acc s Qe;obtain⟨x14,m14,f14,q14,_,la14,lo14,lp14⟩:=(Jk.mem M hX.acc QA).load (i:=s) (cs:=_) (VD hi14);refine pg K rfl rfl (Qb (j:=s) Jx (congrArg some q14) rfl (by rw[Jy];omega)) fun _ K=>pg K rfl rfl (Qd rfl (lo14 _ 0 _ J0 rfl)) fun _ K=>?_;refine Qc 2 K M ?_;exact⟨congrArg AV.bool (Au.LW hi14).symm,M.qt⟩

theorem V8{st:St}(hf:Qj st){F:Fp}{dp:Nat}{a:Au}(hD:Ya st F dp a)(hs:s<a.n): ∃v st',Ev Tryz.prog Q5 26 [.ptr dp 0 0,.int .i64 (s:Nat)] st v st'∧v=.bool (a.ok s)∧Qt st st':=by
 obtain⟨_,_,_,_,_,_,hX⟩:=hD.x;exact DT hf hX hs

end Go.Proofs.YtiknomepbklibaaGreatDoor
end
section
namespace Go.Proofs.YtiknomepbklibaaGreatDoor
open Go Go.RowKit
variable {F:Fp} {a:Au}

def A0(st st':St)(a:Au)(v:AV):Prop:= ∃(ka kn:AV) (vs:List AV) (A:QP) (F:Fp),v=.agg [.int .i64 (a.tr:Nat),ka,kn]∧Acc 0 1 A ka (bC a.acc)∧Xy st'.h.get F kn vs a.nx∧ZT st st' F∧(A.map Prod.fst).Nodup∧ ∀c m l,(c,m,l)∈A→Q4 st'.h.get c m l∧st.n≤c∧ ¬F c
theorem Qk.EO{st0 st st':St}{X0:Fp}{M:QP}{Os:List Ob}(B:Qk st0 X0 st M Os)(q:Qt st st'){v:AV}(h:A0 st st' a v): ∃ka kn vs A F,v=.agg [.int .i64 (a.tr:Nat),ka,kn]∧Acc 0 1 A ka (bC a.acc)∧Qk st0 X0 st' (M++(A++[])) (BG F kn vs a.nx::Os):=by
 obtain⟨ka,kn,vs,A,F,h1,h2,h3,h4,h5,h6⟩:=h;have B1:=B.new (o:=BG F kn vs a.nx) q h3 h4;have hlt: ∀c m l,(c,m,l)∈A→c<st'.n:=fun c m l hm=>(h6 c m l hm).1.lt q.fresh;refine⟨ka,kn,vs,A,F,h1,h2,B1.fresh,B1.le,fun c m l hm=>?_,?_,fun c m l hm=>?_,B1.obj,B1.hi,B1.dj,fun o ho c m l hm hc=>?_,B1.J8⟩
 ·rw[List.append_nil]at hm;rcases List.mem_append.1 hm with hm|hm
  ·exact B1.row c m l hm
  ·exact(h6 c m l hm).1
 ·rw[List.append_nil,List.map_append];refine List.nodup_append.2 ⟨B.nodup,h5,fun x hx y hy e=>?_⟩;subst e;obtain⟨⟨c,m,l⟩,k1,rfl⟩:=List.mem_map.1 hx;obtain⟨⟨c',m',l'⟩,k2,k3⟩:=List.mem_map.1 hy;simp only at k3;subst k3;have:=(B.row _ m l k1).lt B.fresh;have:=(h6 _ m' l' k2).2.1;omega
 ·rw[List.append_nil]at hm;rcases List.mem_append.1 hm with hm|hm
  ·exact B1.lo c m l hm
  ·exact .inl (Nat.le_trans B.le (h6 c m l hm).2.1)
 ·rw[List.append_nil]at hm;rcases List.mem_append.1 hm with hm|hm
  ·exact B1.djM o ho c m l hm hc
  ·rcases List.mem_cons.1 ho with rfl|ho
   ·exact(h6 c m l hm).2.2 hc
   ·have:=(B.hi o ho c hc).1;have:=(h6 c m l hm).2.1;omega
theorem Qk.GQ{st0 st:St}{M A:QP}{Os:List Ob}{ka kn:AV}{vs:List AV}(B:Qk st0 Xu st (M++(A++[])) (BG F kn vs a.nx::Os))(hA:Acc 0 1 A ka (bC a.acc)):A0 st0 st a (.agg [.int .i64 (a.tr:Nat),ka,kn]):=by
 have hn:=B.nodup;rw[List.append_nil,List.map_append]at hn;refine⟨ka,kn,vs,A,F,rfl,hA,B.at_ (k:=0) rfl,B.jP (k:=0) rfl,(List.nodup_append.1 hn).2.1,fun c m l hm=>⟨B.row c m l (by simp[hm]),(B.lo c m l (by simp[hm])).resolve_right id,B.djM _ (List.mem_cons_self ..) c m l (by simp[hm])⟩⟩
section
variable {P:Program} {G:Env} {N:Nat} {h0:Hp} {n0:Nat} {X:List Nat} {st:St} {L A B:UA} {T:Tr AV} {ops:List Oper} {K:List (Nat×AV)} {R:Tr AV→St→Prop} {d:Nat} {ty:TypeId} {pos:String} {af:Array Edge}
theorem yN{sn:List St}{i:Nat}{rr:List (Nat×Nat)}{x y:Operand}{t e:TypeId}{c2 m2 k2:Nat}{ks v:AV}{vs:List AV}(ho:ops[i]? =some ⟨some d,.call {callee:=.builtin .append,args:= #[x,y],argTypes:= #[t,t]},ty,pos,af,none⟩)(hK:QZ K T)(hM:Mem h0 n0 X st (L++(A++B)))(hA:YS A ks vs)(S:Fu P t e 1)(hx:Jb G K x=some ks)(hy:Jb G K y=some (.sl c2 m2 0 1 1))(hk:(L++(A++B))[k2]? =some (c2,m2,[v]))(hb:vs.length+1≤1000000000)(hN:Nat.ble (d+1) N=true)
  (hn: ∀(ks':AV) A' T' st',QZ ((d,ks')::K) T'→YS A' ks' (vs++[v])→(∀c m l,(c,m,l)∈A'→(∃m l,(c,m,l)∈A)∨st.n≤c)→Mem h0 n0 X st' (L++(A'++B))→WD P G N ops (rr.map (Yo ops)) R T' st' (st'::sn)):WD P G N ops (((i,0)::rr).map (Yo ops)) R T st sn:=by
 obtain⟨ks',A',st1,h1,h2,h3,h4⟩:=hM.xV hA S hk hb;exact Lq ho hK (ZO rfl hx hy h1) rfl (Nat.le_of_ble_eq_true hN) fun T' hT'=>hn ks' A' T' st1 hT' h2 h4 h3
end

theorem wu{st:St}(hf:Qj st){dp:Nat}{ka kr:AV}{sp:Nat}{F1:Fp}{S:UG}{roots:List Nat}(hX:KO st F dp a ka kr sp F1 S roots): ∃v st',Ev Tryz.prog Q5 17 [.ptr dp 0 0] st v st'∧A0 st st' a v∧Qt st st':=by
 have wf:=hX.wf;have hen:a.n=a.acc.length:=rfl;have hrl:=hX.len;have hmo:=wf.most;have hln:=wf.len;have htr:=wf.tr;have hp64:=JH wf.tr;have B:=Qk.start hf;refine JI Tryz.func17 Tryz.ntmps17 fun T K=>?_;have M:=B.mem;refine au 2 K M ?_;intro c2 _ _ K _ M;refine p1 K (Y6 JP rfl rfl) fun _ K=>?_;refine Qc 1 K M ?_;intro _ K;refine QF (l:=[(0,0),(1,0),(2,0),(3,0),(4,0),(5,1),(6,0),(7,0),(8,0),(9,0)]) (by kernel_rfl) ?_;have Mq:=M;refine q1 rfl K (Qg rfl) fun _ K=>?_;obtain⟨v10,st10,ev10,rfl,q10⟩:=NF M.fresh (hX.q (B.step M).qt);refine qA rfl K (Qh rfl ev10) fun _ K=>?_;replace M:=M.quiet q10;have Mp:=Mq;have Mq:=M;refine Jc 3 K M ?_;intro _ K;refine Jl rfl K rfl (Q0 ((B.step M).Y3 hf hX.row.Jf id) (Qf Us rfl)) (Q0 ((B.step Mp).Y3 hf hX.row.Jf id) (Qf Us rfl)) (JU (Ju (hX.acc.len.trans (congrArg some (Jy _))))) rfl QE fun _ K=>?_;obtain⟨v15,st15,ev15,ks15,rfl,nr15,q15⟩:=GA M.fresh ((B.step M).Be hf hX.acc) Qe;refine qA rfl K (Qh rfl ev15) fun _ K=>?_;obtain⟨A15,hA15,M⟩:=M.Yv q15 nr15;replace hA15:=hA15.z0;simp only[List.append_assoc,List.cons_append,List.nil_append,List.set_cons_zero,List.set_cons_succ]at M;have Mp:=Mq;have Mq:=M;refine q1 rfl K (W3 VJ rfl ((AJ rfl rfl rfl).trans ((JC rfl hA15.cell rfl).trans rfl))) fun _ K=>?_;refine Wt rfl K M Y1 QE fun c3 _ _ K M=>?_;refine Vt (k:=0) rfl K M rfl rfl rfl QC rfl (Qa rfl (Qa hA15.cell (Qa rfl Qz))) rfl fun _ M=>?_;have Mp:=Mq;have Mq:=M;refine QH ?_;show W _ _ _ _ _ _ _;refine QD<|QD ?_;replace B:=(B.step M).V1;have M:=B.mem;refine Qc 3 K M ?_;intro _ K;refine p1 K (Qd rfl (Q0 ((B.step M).Y3 hf hX.row.Jf id) (Qf Ja rfl))) fun _ K=>p1 K (Q8 Jr rfl rfl (hX.rt.len.trans (congrArg some (by rw[Qn,List.length_map])))) fun _ K=>?_;refine Qc 1 K M ?_;intro _ K;refine Je (fun mm1 T st9=> ∃(i:Nat) (vs:List AV) (kn:AV) (A:QP) (F:Fp),mm1=roots.length-i∧QZ [(0,.ptr dp 0 0),(2,.ptr c2 0 0),(3,.ptr c3 0 0),(20,kr),(21,iZ (roots.length:Nat)),(22,iN i)] T∧Qk st Xu st9 ((c3,0,[iZ (a.tr:Nat),v15,kn])::(c2,0,[iZ 0,.nils,.nils])::(A15++(A++[]))) [EC F vs (a.nx.take i)]∧YS A kn vs∧i≤roots.length) (fun mm1 T st9 hI=>?_) _ _ _ ⟨0,[],.nils,[],_,rfl,(K.sub rfl),(B.step M).less (.refl _),.none,(Nat.zero_le _)⟩;obtain⟨i,vs,kn,A,F,rfl,K,B,hA4,hi⟩:=hI;have M:=B.mem;refine Qc 1 K M ?_;intro _ K;refine JS K rfl (fun h23=>?_) fun h23=>?_
 ·refine Qc 0 K M ?_;intro _ K;obtain⟨y24,hi24⟩:=U9 roots i Qe;obtain⟨x24,m24,f24,q24,_,la24,lo24,lp24⟩:=((B.step M).Be hf hX.rt).load (i:=i) (cs:=_) (Fy hi24);refine p1 K (Qb (j:=i) Qw (congrArg some q24) rfl (by rw[Qn,List.length_map];omega)) fun _ K=>p1 K (Qd rfl (lo24 _ 0 _ Qr rfl)) fun _ K=>?_;refine Qc 1 K M ?_;intro _ K;refine QF (l:=[(2,0),(3,0),(4,0),(5,0),(6,0),(7,0),(0,0),(1,1),(8,0),(9,0),(10,0),(11,0)]) (by kernel_rfl) ?_;have Mq:=M;refine Jc 3 K M ?_;intro _ K;refine q1 rfl K (Qd rfl (Q0 ((B.step M).Y3 hf hX.row.Jf id) (Qf JM rfl))) fun _ K=>q1 rfl K (Qg rfl) fun _ K=>?_;obtain⟨hr1,hr2⟩:=hX.rts _ _ hi24;have hXi:=(hX.q (B.step M).qt).i;obtain⟨v33,st33,ev33,ks33,rfl,nr33,q33⟩:=xu M.fresh hXi wf.tr hX.wfS hr1;refine qA rfl K (Qh rfl ev33) fun _ K=>?_;obtain⟨A33,hA33,M⟩:=M.Yv q33 nr33;replace hA33:=hA33.z0;simp only[List.append_assoc,List.cons_append,List.nil_append,List.set_cons_zero,List.set_cons_succ]at M;have Mp:=Mq;have Mq:=M;refine Jc 1 K M ?_;intro _ K;refine Jl rfl K rfl (M.load (k:=0) rfl (Qf Q6 rfl)) (Mp.load (k:=0) rfl (Qf Q6 rfl)) (JU (Ju hA4.len)) rfl QE fun _ K=>?_;refine Xk rfl K M QU Uv rfl ((JC rfl hA33.cell rfl).trans rfl) (Qa hA33.cell Qz) rfl rfl fun c34 _ _ K M=>?_;refine yN (k2:=0) (L:=((c34,0,[v33])::(c3,0,[iZ (a.tr:Nat),v15,kn])::(c2,0,[iZ 0,.nils,.nils])::(A15++[]))) (A:=A) (B:=(A33++[])) rfl K (Mem.cast (M:=((c34,0,[v33])::(c3,0,[iZ (a.tr:Nat),v15,kn])::(c2,0,[iZ 0,.nils,.nils])::(A15++(A++(A33++[]))))) (M':=((c34,0,[v33])::(c3,0,[iZ (a.tr:Nat),v15,kn])::(c2,0,[iZ 0,.nils,.nils])::(A15++[]))++(A++(A33++[]))) M Uu) hA4 QU rfl rfl rfl (by have:=((B.step M).at_ (k:=0) rfl).ln;rw[List.length_take]at this;omega) rfl fun ks35 A35 _ _ K hA35 _ M=>?_;simp only[List.append_assoc,List.cons_append,List.nil_append,List.set_cons_zero,List.set_cons_succ]at M;refine Jc 1 K M ?_;intro _ K;refine Zi (k:=1) rfl K M rfl rfl rfl Uz (hA35.cell) rfl fun _ M=>?_;have Mp:=Mq;have Mq:=M;refine QH ?_;show W _ _ _ _ _ _ _;refine Qc 2 K M ?_;intro _ K;replace B:=B.step M;obtain⟨Fr,B⟩:=Qk.ZF (L:=((c34,0,[v33])::(c3,0,[iZ (a.tr:Nat),v15,ks35])::(c2,0,[iZ 0,.nils,.nils])::(A15++(A35++[])))) (A:=A33) (B:=[]) (B.cast Uu) hA33 (wf.AU _ (List.mem_of_getElem? hr2));replace B:=B.cast (M':=((c34,0,[v33])::(c3,0,[iZ (a.tr:Nat),v15,ks35])::(c2,0,[iZ 0,.nils,.nils])::(A15++(A35++[])))) Uu
  have htk:a.nx.take i++[WU a.tr S y24]=a.nx.take (i+1):=by rw[List.take_add_one,hr2];rfl
  rw[htk]at B;have M:=B.mem;exact⟨_,Qe,i+1,_,ks35,A35,_,rfl,(K.sub rfl),(B.step M).less (.cons _ (.refl _)),hA35,Qe⟩
 refine QW ?_;show W _ _ _ _ _ _ _;refine Qc 1 K M ?_;intro _ K;refine QS (k:=1) K M rfl rfl rfl QC rfl (Qa rfl (Qa hA15.cell (Qa hA4.cell Qz))) rfl fun _ M=>?_;refine Qc 0 K M ?_;refine⟨?_,(B.step M).qt⟩;replace B:=B.step M;have hti:a.nx.take i=a.nx:=List.take_of_length_le Qe;rw[hti]at B;obtain⟨F',B'⟩:=Qk.GR (L:=((c3,0,[iZ (a.tr:Nat),v15,kn])::(c2,0,[iZ (a.tr:Nat),v15,kn])::A15)) (A:=A) (B:=[]) (B.cast Uu) hA4;exact Qk.GQ (M:=[(c3,0,[iZ (a.tr:Nat),v15,kn]),(c2,0,[iZ (a.tr:Nat),v15,kn])]) (A:=A15) (B'.cast QA) hA15

theorem Ft{st:St}(hf:Qj st){dp:Nat}(hD:Ya st F dp a): ∃v st',Ev Tryz.prog Q5 17 [.ptr dp 0 0] st v st'∧A0 st st' a v∧Qt st st':=by
 obtain⟨_,_,_,_,_,_,hX⟩:=hD.x;exact wu hf hX
end Go.Proofs.YtiknomepbklibaaGreatDoor
end
section
namespace Go.Proofs.YtiknomepbklibaaGreatDoor
open Go Go.RowKit

theorem Wc{α:Type}(f:α→AV){L:List α}{j:Nat}{x:α}(h:L[j]? =some x):nth (L.map f) (0+j *1)=some (f x):=by
 rw[U8,Nat.zero_add,Nat.mul_one,List.getElem?_map,h];rfl
theorem WY{α:Type}(f:α→AV)(w:α): ∀{L:List α} {j:Nat},j<L.length→Zo [f w] (0+j *1) (L.map f)=some ((L.set j w).map f):=by
 intro L j h;rw[Nat.zero_add,Nat.mul_one]
 induction L generalizing j with
 |nil=>simp at h
 |cons a L ih=>
  cases j with
  |zero=>rfl
  |succ j=>
   rw[List.map_cons,LP,ih (by simpa using h)];rfl
theorem I4{α:Type}(f:α→AV)(L:List α):(L.map fun x=>[f x]).flatten=L.map f:=by
 induction L with
 |nil=>rfl
 |cons a L ih=>rw[List.map_cons,List.flatten_cons,ih];rfl
theorem Acc.jv{α:Type}{f:α→AV}{n0:Nat}{A:QP}{ks:AV}{L:List α}(hA:Acc n0 1 A ks (L.map fun x=>[f x]))(hL:0<L.length): ∃c m,ks=.sl c m 0 L.length 1∧A=[(c,m,L.map f)]:=by
 generalize hg:(L.map fun x=>[f x])=ls at hA
 cases hA with
 |none=>have h0:=congrArg List.length hg;rw[List.length_map,List.length_nil]at h0;omega
 |own h1 h2 h3=>
  rename_i c m;subst hg;exact⟨c,m,by rw[List.length_map],by rw[I4]⟩
theorem Acc.ofM{α:Type}(f:α→AV){c m:Nat}{L:List α}(hb:L.length≤1000000000):Acc 0 1 [(c,m,L.map f)] (.sl c m 0 L.length 1) (L.map fun x=>[f x]):=by
 have:=Acc.own (n0:=0) (z:=1) (c:=c) (m:=m) (ls:=L.map fun x=>[f x]) (Nat.zero_le _) (fun cs hc=>by obtain⟨x,_,rfl⟩:=List.mem_map.1 hc;rfl) (by rw[List.length_map];exact hb);rw[I4,List.length_map]at this;exact this
theorem Q4.aI{α:Type}{f:α→AV}{h:Hp}{c m n:Nat}{L:List α}(r:Q4 h c m (L.map f))(hn:L.length=n)(hb:L.length≤1000000000):Jk h [] 1 (L.map fun x=>[f x]) (.sl c m 0 n 1):=by
 subst hn;have:=Jk.own (X:=[]) (z:=1) (ls:=L.map fun x=>[f x]) (c:=c) (m:=m) (by rw[I4];exact r) (fun cs hc=>by obtain⟨x,_,rfl⟩:=List.mem_map.1 hc;rfl) QA (by rw[List.length_map];omega);rw[List.length_map]at this;exact this
section
variable {P:Program} {G:Env} {N:Nat} {h0:Hp} {n0:Nat} {X:List Nat} {st:St} {M:QP} {T:Tr AV} {ops rest:List Oper} {K:List (Nat×AV)} {R:Tr AV→St→Prop} {d:Nat} {t ty:TypeId} {pos:String} {af:Array Edge}
theorem CY{α:Type}(z:α): ∀n,Ve n [z]=List.replicate n z
 |0=>rfl
 |n+1=>by rw[List.replicate_succ,←CY z n];show ZC [z] (Ve n [z])=_;rw[U7];rfl
theorem Cw{α:Type}(f:α→AV)(z:α){x:Operand}{n:Nat}{e:TypeId}(hK:QZ K T)(hM:Mem h0 n0 X st M)(S:Fu P t e 1)(hz:zeroOf P e=some [f z])(hx:Jb G K x=some (.int .i64 (n:Nat)))(hb:n≤1000000000)(hN:Nat.ble (d+1) N=true)
  (hn: ∀(c:Nat) T' st',QZ ((d,.sl c 0 0 n 1)::K) T'→Mem h0 n0 X st' ((c,0,(List.replicate n z).map f)::M)→WR P G N ops rest R T' st'):WR P G N ops (⟨some d,.makeSlice t x x,ty,pos,af,none⟩::rest) R T st:=by
 refine Es (v:=.sl st.n 0 0 n 1) (st1:=⟨st.n+1,st.h.set st.n (.row false [(((List.replicate n z).map f).length,0,some ((List.replicate n z).map f))])⟩) hK (.of fun T hT c d ty pos af g=>?_) (Nat.le_of_ble_eq_true hN) fun T' hT'=>hn st.n T' _ hT' (hM.alloc _);show(ob (QJ G T x) fun a=>ob (QJ G T x) fun b=>V3 P t a b st)=_;rw[hT.QJ hx,Ql,Ql];unfold V3;have h1:Og ((n:Nat):Int)=some n:=rfl;simp only[S.u,h1,Ql,S.s,QO,hz,S.c];rw[show Nat.beq (Zl [f z]) 1=true from rfl,show Nat.ble 1 (Zl [f z])=true from rfl,Nat.ble_eq_true_of_le (Nat.le_refl n),Nat.ble_eq_true_of_le hb,Nat.ble_eq_true_of_le S.b];simp only[QO,Yc,Ji,CY,List.map_replicate]
end
end Go.Proofs.YtiknomepbklibaaGreatDoor
end
