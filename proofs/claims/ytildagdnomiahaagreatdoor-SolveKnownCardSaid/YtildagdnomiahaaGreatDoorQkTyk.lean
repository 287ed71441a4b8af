/-
  What hangs on letters: made.
-/
import Derived.Test.YtildagdnomiahaaGreatDoorQkBdA
set_option maxRecDepth 100000
set_option linter.unnecessarySimpa false
set_option linter.unusedSimpArgs false
set_option linter.unusedVariables false
namespace Go.Proofs.YtildagdnomiahaaGreatDoor
section
open Go Go.RowKit
set_option maxHeartbeats 8000000
variable {F:Fp} {S:JW} {T Tn a c sp t:Nat} {fa fc:List AV} {fo:FuncId} {kl kr:AV} {l row:List Int} {st:St} {x:Int}

theorem JE(h:T≤6):2^T≤64:=Nat.le_trans (Nat.pow_le_pow_right QA h) QA
theorem Td(S:JW)(i:Nat)(h:c<2^T):(Wg T S i).take (c+1)=(Wg T S i).take c++[UH S i c]:=by
 rw[List.take_add_one,BU S i h];rfl
def TO(t a c:Nat):Nat:=a+c/2^t *2^t
theorem xD(h:c.testBit t=false):TO (t+1) a c=TO t a c:=by
 unfold TO
 have h1:c/2^t % 2=0:=by
  rw[Nat.testBit_eq_decide_div_mod_eq,decide_eq_false_iff_not]at h;omega
 have h2:c/2^(t+1)=c/2^t/2:=by rw[Nat.pow_succ,Nat.div_div_eq_div_mul]
 rw[h2,Nat.pow_succ]
 have h3:c/2^t/2 *2=c/2^t:=by omega
 rw[Nat.mul_comm (2^t) 2,←Nat.mul_assoc,h3]
theorem jO(h:c.testBit t=true):TO (t+1) (a+2^t) c=TO t a c:=by
 unfold TO
 have h1:c/2^t % 2=1:=by
  rw[Nat.testBit_eq_decide_div_mod_eq,decide_eq_true_eq]at h;exact h
 have h2:c/2^(t+1)=c/2^t/2:=by rw[Nat.pow_succ,Nat.div_div_eq_div_mul]
 rw[h2,Nat.pow_succ]
 have h3:c/2^t/2 *2+1=c/2^t:=by omega
 rw[Nat.mul_comm (2^t) 2,←Nat.mul_assoc]
 conv=>rhs;rw[←h3]
 rw[Nat.succ_mul];omega
theorem ei(h:a<2^t):a|||2^t=a+2^t:=by
 have:=Nat.two_pow_add_eq_or_of_lt h 1;rw[Nat.mul_one]at this;rw[Nat.or_comm,←this,Nat.add_comm]
theorem Ps{P:Program}{G:Env}{K:List (Nat×AV)}{t yt:TypeId}{x y:Operand}{b e:Nat}(he:a|||b=e)(hx:QE G K x=some (.int .i64 (a:Nat)))(hy:QE G K y=some (.int .i64 (b:Nat)))(ha:a≤9223372036854775807)(hb:b≤9223372036854775807):Uk P G K (.binOp .or t x y yt) st (.int .i64 (e:Nat)) st:=he▸wV hx hy ha hb
theorem Vj.more{S':JW}{k k' i:Nat}(h:Vj T S k S' i)(hk:k≤k'):Vj T S k' S' i:=⟨h.wf,h.pre,h.lt,Nat.le_trans h.len Qe⟩
theorem va(hf:Qh st)(hS:Y6 st F sp Tn S)(h6:Tn≤6)(wf:Zy Tn S){i:Nat}(hi:i<S.length): ∃v st',QP 213 [.ptr sp 0 0,iN i] st v st'∧ ∃kr,v=kr∧FT st st' 1 kr (zC (Wg Tn S i))∧Qt st st':=by
 have hp:=JE h6;refine Jy Tryz.func213 Tryz.ntmps213 fun T K=>?_;have M:=Mem.start hf;refine Qa 3 K M fun _ K=>?_;obtain⟨v9,st9,ev9,rfl,q9⟩:=LO M.fresh (hS.q M.qt) hi;refine p1 K (Qg rfl ev9) fun _ K=>?_;replace M:=M.quiet q9;refine Qa 4 K M fun _ K=>?_;refine oQ K M (Ws M.fresh (hS.q M.qt)) rfl rfl fun _ _ K M=>?_;refine p1 K (ZB (n:=Tn) rfl rfl Qe) fun _ K=>?_;refine Qa 1 K M fun _ K=>?_;refine Jc (fun mm1 T st9=> ∃(c:Nat) (kr:AV) (A:Ut),mm1=2^Tn-c∧QG [(0,.ptr sp 0 0),(1,iN i),(4,.nils),(5,kr),(13,iZ (2^Tn:Nat)),(14,iN c)] T∧Mem st.h.get st.n [] st9 (A++[])∧Acc st.n 1 A kr (zC ((Wg Tn S i).take c))∧c≤2^Tn) (fun mm1 T st9 hI=>?_) _ _ _ ⟨0,.nils,[],rfl,(K.sub rfl),M.less (.refl _),(by rw[List.take_zero];exact .none),(Nat.zero_le _)⟩;obtain⟨c,kr,A,rfl,K,M,hA,hc⟩:=hI;refine Qa 1 K M fun _ K=>?_;refine UA K rfl (fun h15=>?_) fun h15=>?_
 ·refine Qa 6 K M fun _ K=>?_;refine oQ K M (yx (c:=c) M.fresh (hS.q M.qt) h6 wf hi Qe) rfl rfl fun _ _ K M=>?_;refine au 1 K M ?_;intro c22 _ _ K _ M;refine yV (k2:=0) (L:=[(c22,0,[iZ ((UH S i c))])]) (B:=[]) K M hA QR rfl rfl rfl rfl (by rw[Qz,List.length_take,KC];have:=Nat.min_le_right c (2^Tn);omega) rfl fun ks23 A23 _ _ K hA23 M=>?_;refine Qa 3 K M fun _ K=>?_;exact⟨_,Qe,c+1,ks23,A23,rfl,(K.sub rfl),M.less (.cons _ (.refl _)),(by rw[Td S i Qe,Uv];exact hA23),Qe⟩
 refine QT ?_;show W _ _ _ _ _ _ _;refine Qa 2 K M ?_;refine⟨_,rfl,?_,M.qt⟩;rw[List.take_of_length_le (by rw[KC];omega)]at hA;have h:=Mem.xg (L:=[]) (B:=[]) M hA
 simpa using h

theorem Ld(hf:Qh st)(h1:0≤x)(h2:x≤1099511627776): ∃v st',QP 285 [iZ x] st v st'∧v=.bool true∧Qt st st':=by
 refine Jy Tryz.func285 Tryz.ntmps285 fun T K=>?_;have M:=Mem.start hf;refine Qa 3 K M fun _ K=>?_;refine Uz K rfl (fun _ e5 K=>?_) fun _ e5 K=>?_
 ·exfalso;omega
 refine Qa 4 K M ?_;exact⟨congrArg AV.bool (decide_eq_true h2),M.qt⟩

theorem S6(hf:Qh st)(h6:Tn≤6): ∃v st',QP 254 [iN Tn] st v st'∧ ∃sp F,v=.ptr sp 0 0∧Y6 st' F sp Tn []∧XP st st' F∧Qt st st':=by
 have B:=Ql.start hf;refine Jy Tryz.func254 Tryz.ntmps254 fun T K=>?_;have M:=B.mem;refine Qa 3 K M fun _ K=>?_;refine Uz K rfl (fun _ e5 K=>?_) fun _ e5 K=>?_
 ·refine Qa 3 K M fun _ K=>?_;refine UA K rfl (fun h8=>?_) fun h8=>?_
  ·exfalso;omega
  refine Qa 1 K M fun _ K=>?_;replace B:=B.step M;refine Vy W6 K B rfl fun c10 _ _ K B=>?_;have M:=B.mem;refine au 3 K M ?_;intro c12 _ _ K _ M;refine Qa 0 K M ?_;obtain⟨F,B'⟩:=Ql.PW (M:=[]) (Os:=[]) (A:=[]) (S:=[]) (B.step M) .none;exact⟨_,F,rfl,B'.HQ (k:=0) rfl,B'.xq (k:=0) rfl,B'.qt⟩
 exfalso;omega

theorem yw(hf:Qh st)(hS:Y6 st F sp Tn S)(hl:S.length<1000000000)(nd:Bn): ∃v st',QP 324 [.ptr sp 0 0,(W6 nd)] st v st'∧ ∃i S',v=iN i∧Bo S nd i S'∧Xc st st' F sp Tn S':=by
 have B0:=Ql.UU (o:=ZL F sp Tn S) hf hS.at_ hS.hi;obtain⟨ks,cm,A,B,hA⟩:=B0.fU;have hbl:JZ ks=some S.length:=hA.len.trans (congrArg some (List.length_map ..));refine Jy Tryz.func324 Tryz.ntmps324 fun T K=>?_;have M:=B.mem;replace M:=Mem.cast (M':=((sp,0,[iN Tn,ks,.mp cm])::(A++[]))) M Q0;replace B:=B.cast (show _=((sp,0,[iN Tn,ks,.mp cm])::(A++[])) by simp);replace M:=B.mem;refine Qa 6 K M fun _ K=>?_;refine p1 K (VD jK ((B.step M).at_ (k:=0) rfl) rfl rfl) fun _ K=>?_;refine Qa 7 K M fun _ K=>?_;refine Ze K rfl (fun h17=>?_) fun h17=>?_
 ·have hb17:=h17
  replace h17:((U1 (XI 0 S) nd).isSome)=false:=by simpa using h17
  refine ZG ?_
  have hnone:U1 (XI 0 S) nd=none:=by cases hq:U1 (XI 0 S) nd with|none=>rfl|some x=>rw[hq]at h17;cases h17
  refine Qa 4 K M fun _ K=>?_;refine p1 K (Q7 ZA rfl rfl hbl) fun _ K=>?_;refine Qa 7 K M fun _ K=>?_;refine AU K M Vm W8 rfl ((Yu rfl (Dw nd) rfl).trans rfl) (Qc (Dw nd) QY) rfl rfl fun c29 _ _ K M=>?_;refine Ez (k2:=0) (L:=[(c29,0,[(W6 nd)]),(sp,0,[iN Tn,ks,.mp cm])]) (B:=[]) K M hA Vm rfl rfl rfl (by rw[List.length_map];omega) rfl fun ks30 A30 _ _ K hA30 hN30 M=>?_;simp only[AH]at M;refine Qa 2 K M fun _ K=>?_;refine J5 (k:=1) K M rfl rfl rfl EV (hA30.cell) rfl fun _ M=>?_;refine Qa 6 K M fun _ K=>?_;replace B:=B.step M;refine AT (j:=0) (a:=nd) K B rfl jK rfl rfl rfl rfl hnone fun _ B=>?_;have M:=B.mem;refine Qa 2 K M ?_;refine⟨S.length,S++[nd],rfl,.app (xu hnone),?_⟩;have hA':=hA30;rw[G6]at hA'
  have e:XI 0 S++[(nd,iZ (S.length:Nat))]=XI 0 (S++[nd]):=by rw[Ox,Nat.zero_add]
  obtain⟨F',B'⟩:=Ql.PW (M:=[]) (Os:=[]) (A:=A30) (S:=S++[nd]) (by rw[←e];exact(B.step M).less (.cons _ (.refl _))) hA';exact B'.KJ
 have hb17:=h17
 replace h17:((U1 (XI 0 S) nd).isSome)=true:=by simpa using h17
 refine Qa 2 K M ?_
 obtain⟨v0,hv0⟩: ∃x,U1 (XI 0 S) nd=some x:=by cases hq:U1 (XI 0 S) nd with|none=>rw[hq]at h17;cases h17|some x=>exact⟨x,rfl⟩
 obtain⟨i,hi,rfl⟩:=xr hv0;refine⟨i,S,by rw[hv0];rfl,.inl ⟨hi,rfl⟩,?_⟩;obtain⟨F',B'⟩:=Ql.PW (M:=[]) (Os:=[]) (A:=A) (S:=S) (by simpa using B.step M) hA;exact B'.KJ

theorem D1(hf:Qh st)(hS:Y6 st F sp Tn S)(wf:Zy Tn S)(hl:S.length<1000000000)(h1:0≤x)(h2:x≤1099511627776): ∃v st',QP 304 [.ptr sp 0 0,iZ x] st v st'∧ ∃i S',v=iN i∧Xc st st' F sp Tn S'∧Vj Tn S 1 S' i∧lvl Tn S' i=Tn∧ ∀c,UH S' i c=x:=by
 have B:=Ql.UU (o:=ZL F sp Tn S) hf hS.at_ hS.hi;refine Jy Tryz.func304 Tryz.ntmps304 fun T K=>?_;have M:=B.mem;refine Qa 2 K M fun _ K=>?_;refine p1 K (U2 Zf rfl rfl) fun _ K=>?_;refine Qa 2 K M fun _ K=>?_;obtain⟨v9,st9,ev9,rfl,q9⟩:=Ld M.fresh h1 h2;refine pg K rfl rfl (Qg rfl ev9) fun _ K=>?_;replace M:=M.quiet q9;refine Qa 6 K M fun _ K=>?_;refine p1 K (KK rfl (G2 _)) fun _ K=>?_;replace B:=B.step M;obtain⟨v16,st16,ev16,i16,S16,rfl,hput,hout⟩:=yw M.fresh (B.HQ (k:=0) rfl) Qe (.leaf x);refine p1 K (Qg rfl ev16) fun _ K=>?_;obtain⟨F',B⟩:=B.Vd hout;have M:=B.mem;refine Qa 1 K M ?_;obtain⟨h3,h4,h5⟩:=xw hput wf ⟨h1,h2⟩;exact⟨_,_,rfl,(B.step M).KJ,h3,h4,h5⟩

theorem yu(hf:Qh st)(hS:Y6 st F sp Tn S)(wf:Zy Tn S)(hlen:S.length<1000000000){l h:Nat}(ht:t<Tn)(hl:l<S.length)(hh:h<S.length)(h1:t<lvl Tn S l)(h2:t<lvl Tn S h): ∃v st',QP 305 [.ptr sp 0 0,iN t,iN l,iN h] st v st'∧ ∃i S',v=iN i∧Xc st st' F sp Tn S'∧Vj Tn S 1 S' i∧t≤lvl Tn S' i∧ ∀c,UH S' i c=if c.testBit t then UH S h c else UH S l c:=by
 have B:=Ql.UU (o:=ZL F sp Tn S) hf hS.at_ hS.hi;refine Jy Tryz.func305 Tryz.ntmps305 fun T K=>?_;have M:=B.mem;refine Qa 3 K M fun _ K=>?_;refine Uz K rfl (fun _ e12 K=>?_) fun _ e12 K=>?_
 ·refine Qa 2 K M fun _ K=>?_;replace B:=B.step M;obtain⟨v15,st15,ev15,rfl,q15⟩:=Ws M.fresh (B.HQ (k:=0) rfl);refine pg K rfl rfl (Qg rfl ev15) fun _ K=>?_;replace B:=B.quiet q15;have M:=B.mem;refine Qa 2 K M fun _ K=>?_;refine Uz K rfl (fun _ e18 K=>?_) fun _ e18 K=>?_
  ·refine Qa 3 K M fun _ K=>?_;replace B:=B.step M;obtain⟨v22,st22,ev22,rfl,q22⟩:=O6 M.fresh (B.HQ (k:=0) rfl) hl t ht;refine pg K rfl rfl (Qg rfl ev22) fun _ K=>?_;replace B:=B.quiet q22;have M:=B.mem;refine Qa 2 K M fun _ K=>?_;refine oB K (Q8 rfl) rfl fun b25 _ e25 K=>?_;cases b25
   ·replace e25:(t<lvl Tn S l):=by simpa using e25
    refine Qa 3 K M fun _ K=>?_;replace B:=B.step M;obtain⟨v29,st29,ev29,rfl,q29⟩:=O6 M.fresh (B.HQ (k:=0) rfl) hh t ht;refine pg K rfl rfl (Qg rfl ev29) fun _ K=>?_;replace B:=B.quiet q29;have M:=B.mem;refine Qa 3 K M fun _ K=>?_;refine iR K rfl (fun h9=>?_) fun h9=>?_
    ·exfalso;omega
    refine Qa 4 K M fun _ K=>?_;refine UA K rfl (fun h32=>?_) fun h32=>?_
    ·refine Qa 2 K M ?_;obtain⟨h3,h4,h5⟩:=vL (.inl ⟨by omega,rfl,rfl⟩) wf ht hl hh h1 h2;exact⟨_,_,rfl,(B.step M).KJ,h3,h4,h5⟩
    refine Qa 5 K M fun _ K=>?_;refine p1 K (KK rfl (G3 _)) fun _ K=>?_;replace B:=B.step M;obtain⟨v43,st43,ev43,i43,S43,rfl,hput,hout⟩:=yw M.fresh (B.HQ (k:=0) rfl) Qe (.fork t l h);refine p1 K (Qg rfl ev43) fun _ K=>?_;obtain⟨F',B⟩:=B.Vd hout;have M:=B.mem;refine Qa 1 K M ?_;obtain⟨h3,h4,h5⟩:=vL (.inr ⟨by omega,hput⟩) wf ht hl hh h1 h2;exact⟨_,_,rfl,(B.step M).KJ,h3,h4,h5⟩
   replace e25: ¬(t<lvl Tn S l):=by simpa using e25
   exfalso;omega
  exfalso;omega
 exfalso;omega

theorem Ol(hf:Qh st)(hl:Jb st.h.get [] 1 (zC l) kl)(hb:(l.length:Int)≤9223372036854775807){p:Int→Bool}(hC: ∀(x:Int),x∈l→ ∀(st1:St),Qt st st1→ ∃v st',QP fo (fa++([iZ x]++fc)) st1 v st'∧v=.bool (p x)∧Qt st1 st'): ∃v st',QP 162 [kl,(AV.fn fo fa fc)] st v st'∧v=iZ (EL p l 0)∧Qt st st':=by
 refine Jy Tryz.func162 Tryz.ntmps162 fun T K=>?_;have M:=Mem.start hf;refine Qa 2 K M fun _ K=>?_;refine p1 K (Q7 Jr rfl rfl (hl.len.trans (congrArg some (Qz _)))) fun _ K=>?_;refine Qa 1 K M fun _ K=>?_;refine Jc (fun mm1 T st9=> ∃(i:Nat),mm1=l.length-i∧QG [(0,kl),(1,(AV.fn fo fa fc)),(7,iZ (l.length:Nat)),(8,iN i)] T∧Mem st.h.get st.n [] st9 []∧i≤l.length∧EL p l 0=EL p (l.drop i) i) (fun mm1 T st9 hI=>?_) _ _ _ ⟨0,rfl,(K.sub rfl),M.less (.refl _),(Nat.zero_le _),rfl⟩;obtain⟨i,rfl,K,M,hi,hx⟩:=hI;refine Qa 1 K M fun _ K=>?_;refine UA K rfl (fun h9=>?_) fun h9=>?_
 ·refine Qa 5 K M fun _ K=>?_;obtain⟨y14,hi14⟩:=YY l i Qe;refine oI (Jb.mem M hl Q0) (JB hi14) K QF Qr rfl rfl rfl fun _ _ _ _ K=>?_;obtain⟨v16,st16,ev16,rfl,q16⟩:=hC y14 (List.mem_of_getElem? hi14) _ M.qt;refine p1 K (Zj rfl rfl ev16) fun _ K=>?_;replace M:=M.quiet q16;refine Qa 0 K M fun _ K=>?_;refine Ze K rfl (fun h16=>?_) fun h16=>?_
  ·have hb16:=h16;refine Qa 2 K M ?_;exact⟨by rw[hx,E7 hi14,if_pos h16],M.qt⟩
  have hb16:=h16;refine Qa 2 K M fun _ K=>?_;exact⟨_,Qe,i+1,rfl,(K.sub rfl),M.less (.refl _),Qe,(by rw[hx,E7 hi14,if_neg (by rw[h16];decide)])⟩
 refine QT ?_;show W _ _ _ _ _ _ _;refine Qa 1 K M ?_;exact⟨by rw[hx,CF Qe],M.qt⟩

theorem Xr(hf:Qh st)(hl:Jb st.h.get [] 1 (zC l) kl)(hb:(l.length:Int)≤9223372036854775807){p:Int→Bool}(hC: ∀(x:Int),x∈l→ ∀(st1:St),Qt st st1→ ∃v st',QP fo (fa++([iZ x]++fc)) st1 v st'∧v=.bool (p x)∧Qt st1 st'): ∃v st',QP 210 [kl,(AV.fn fo fa fc)] st v st'∧v=.bool (l.any p)∧Qt st st':=by
 refine Jy Tryz.func210 Tryz.ntmps210 fun T K=>?_;have M:=Mem.start hf;refine Qa 3 K M fun _ K=>?_;refine oQ K M (Ol M.fresh (Jb.mem M hl Q0) hb (fun x hx st1 q=>hC x hx st1 (M.qt.trans q))) rfl rfl fun _ _ K M=>?_;refine Qa 2 K M ?_;exact⟨by rw[←CG p l 0],M.qt⟩

theorem FL(hf:Qh st)(hl:Jb st.h.get [] 1 (zC l) kl)(hb:(l.length:Int)≤9223372036854775807)(hC: ∀(x:Int),x∈l→ ∀(st1:St),Qt st st1→ ∃v st',QP fo (fa++([.int .i64 x]++fc)) st1 v st'∧v=.bool false∧Qt st1 st'): ∃v st',QP 210 [kl,.fn fo fa fc] st v st'∧v=.bool false∧Qt st st':=by
 obtain⟨v,st',h1,h2,h3⟩:=Xr (p:=fun _=>false) hf hl hb hC;exact⟨v,st',h1,by rw[h2];simp,h3⟩

theorem aR(hf:Qh st)(h1:0≤x)(h2:x≤1099511627776): ∃v st',QP 284 [iZ x] st v st'∧v=.bool false∧Qt st st':=by
 refine Jy Tryz.func284 Tryz.ntmps284 fun T K=>?_;have M:=Mem.start hf;refine Qa 2 K M fun _ K=>?_;refine oQ K M (Ld M.fresh h1 h2) rfl rfl fun _ _ K M=>?_;refine Qa 2 K M ?_;exact⟨rfl,M.qt⟩

theorem yl(hf:Qh st)(hS:Y6 st F sp Tn S)(h6:Tn≤6)(wf:Zy Tn S)(ht:t≤Tn)(ha:a<2^t)(hlen0:S.length+(2^(Tn-t+1)-1)≤1000000000)(hR:Jb st.h.get [] 1 (zC row) kr)(hoff: ∀c m o n y,kr=.sl c m o n y→ ¬F c)(hrl:row.length=2^Tn)(hrv: ∀x∈row,0≤x∧x≤1099511627776)(ih:t<Tn→ ∀(st:St) (F:Fp) (S:JW) (a:Nat),Qh st→Y6 st F sp Tn S→Zy Tn S→S.length+(2^(Tn-(t+1)+1)-1)≤1000000000→a<2^(t+1)→Jb st.h.get [] 1 (zC row) kr→(∀c m o n y,kr=.sl c m o n y→ ¬F c)→ ∃v st',QP 286 [.ptr sp 0 0,kr,iZ (t+1:Nat),iN a] st v st'∧ ∃i S',v=iN i∧Xc st st' F sp Tn S'∧Vj Tn S (2^(Tn-(t+1)+1)-1) S' i∧t+1≤lvl Tn S' i∧ ∀c,c<2^Tn→row[TO (t+1) a c]? =some (UH S' i c)): ∃v st',QP 286 [.ptr sp 0 0,kr,iN t,iN a] st v st'∧ ∃i S',v=iN i∧Xc st st' F sp Tn S'∧Vj Tn S (2^(Tn-t+1)-1) S' i∧t≤lvl Tn S' i∧ ∀c,c<2^Tn→row[TO t a c]? =some (UH S' i c):=by
 have B:=Ql.UU (o:=ZL F sp Tn S) hf hS.at_ hS.hi;obtain⟨ks,cm,hrow,hrd,hlen,hbn⟩:=hS.at_.rd;have hpt:=JE (show t≤6 by omega)
 have hp2:2^(t+1)=2 *2^t:=by rw[Nat.pow_succ,Nat.mul_comm]
 have hq0:1≤2^(Tn-t):=Nat.one_le_two_pow
 have hq1:2^(Tn-t+1)=2 *2^(Tn-t):=by rw[Nat.pow_succ,Nat.mul_comm]
 refine Jy Tryz.func286 Tryz.ntmps286 fun T K=>?_;have M:=B.mem;refine Qa 5 K M fun _ K=>?_;refine p1 K (Qi rfl (Qq (M.QX Q0 hrow.QH) (Qb Qr rfl))) fun _ K=>?_;refine Qa 1 K M fun _ K=>?_;refine UA K rfl (fun h15=>?_) fun h15=>?_
 ·refine ZG ?_
  have htt:t=Tn:=by omega
  have harl:a<row.length:=by rw[hrl,←htt];exact ha
  refine Qa 3 K M fun _ K=>?_;obtain⟨y19,hi19⟩:=YY row a Qe;refine oI ((B.step M).rd hf hR hoff) (JB hi19) K QF Qr rfl rfl rfl fun _ _ _ _ K=>?_;replace B:=B.step M;obtain⟨hv1,hv2⟩:=hrv _ (List.mem_of_getElem? hi19);obtain⟨v21,st21,ev21,i1,S1,rfl,hout1,m1,lv1,hev1⟩:=D1 B.fresh (B.HQ (k:=0) rfl) wf Qe hv1 hv2;refine p1 K (Qg rfl ev21) fun _ K=>?_;obtain⟨F1,B⟩:=B.Vd hout1;have M:=B.mem;refine Qa 1 K M ?_
  have e0: ∀c,c<2^Tn→TO t a c=a:=fun c hc=>by
   unfold TO;rw[htt,Nat.div_eq_of_lt hc,Nat.zero_mul,Nat.add_zero]
  exact⟨_,_,rfl,(B.step M).KJ,m1.more Qe,by omega,fun c hc=>by rw[e0 c hc,hi19,hev1]⟩
 refine Qa 0 K M fun _ K=>?_
 have ht1:t<Tn:=by omega
 have hq2:Tn-(t+1)+1=Tn-t:=by omega
 have hq3:2^(Tn-(t+1)+1)=2^(Tn-t):=by rw[hq2]
 refine Qa 5 K M fun _ K=>?_;replace B:=B.step M;obtain⟨v27,st27,ev27,i1,S1,rfl,hout1,m1,lv1,hev1⟩:=ih ht1 _ _ _ a B.fresh (B.HQ (k:=0) rfl) wf (by skip;omega) Qe (B.rd hf hR hoff) (B.off (k:=0) rfl hf hR hoff);refine p1 K (Qg rfl ev27) fun _ K=>?_;obtain⟨F1,B⟩:=B.Vd hout1;have M:=B.mem;refine Qa 1 K M fun _ K=>?_;have hor:a|||2^t=a+2^t:=ei ha;refine Qa 9 K M fun _ K=>?_;refine p1 K (ZB (n:=t) rfl rfl Qe) fun _ K=>p1 K (Ps (a:=a) (b:=2^t) hor rfl rfl Qe Qe) fun _ K=>?_;replace B:=B.step M;obtain⟨v39,st39,ev39,i2,S2,rfl,hout2,m2,lv2,hev2⟩:=ih ht1 _ _ _ (a+2^t) B.fresh (B.HQ (k:=0) rfl) m1.wf (by have:=m1.len;omega) Qe (B.rd hf hR hoff) (B.off (k:=0) rfl hf hR hoff);refine p1 K (Qg rfl ev39) fun _ K=>?_;obtain⟨F2,B⟩:=B.Vd hout2;have M:=B.mem;replace B:=B.step M;have hl1:=m1.len;have hl2:=m2.len;have hq2:=Xo (T:=Tn) m2.pre m1.lt;have hq3:=m2.pre.length_le;have hlt1:=m1.lt;obtain⟨v40,st40,ev40,i3,S3,rfl,hout3,m3,lv3,hev3⟩:=yu B.fresh (B.HQ (k:=0) rfl) m2.wf Qe ht1 (show i1<_ by omega) m2.lt Qe Qe;refine p1 K (Qg rfl ev40) fun _ K=>?_;obtain⟨F3,B⟩:=B.Vd hout3;have M:=B.mem;refine Qa 1 K M ?_;refine⟨_,_,rfl,(B.step M).KJ,⟨m3.wf,m1.pre.trans (m2.pre.trans m3.pre),m3.lt,by have:=m3.len;omega⟩,lv3,fun c hc=>?_⟩;rw[hev3]
 cases hb:c.testBit t with
 |true=>rw[if_pos rfl,←jO hb];exact hev2 c hc
 |false=>rw[if_neg QA,Y1 m1.wf m2.pre m1.lt,←xD hb];exact hev1 c hc

theorem xX(h6:Tn≤6)(hrl:row.length=2^Tn)(hrv: ∀x∈row,0≤x∧x≤1099511627776): ∀k t,t+k=Tn→ ∀(st:St) (F:Fp) (S:JW) (a:Nat),Qh st→Y6 st F sp Tn S→Zy Tn S→S.length+(2^(Tn-t+1)-1)≤1000000000→a<2^t→Jb st.h.get [] 1 (zC row) kr→(∀c m o n y,kr=.sl c m o n y→ ¬F c)→ ∃v st',QP 286 [.ptr sp 0 0,kr,.int .i64 (t:Nat),.int .i64 (a:Nat)] st v st'∧ ∃i S',v=.int .i64 (i:Nat)∧Xc st st' F sp Tn S'∧Vj Tn S (2^(Tn-t+1)-1) S' i∧t≤lvl Tn S' i∧ ∀c,c<2^Tn→row[TO t a c]? =some (UH S' i c):=by
 intro k
 induction k with
 |zero=>intro t ht st F S a hf hS wf hl ha hR hoff;exact yl hf hS h6 wf Qe ha hl hR hoff hrl hrv fun h=>by omega
 |succ k ih=>intro t ht st F S a hf hS wf hl ha hR hoff;exact yl hf hS h6 wf Qe ha hl hR hoff hrl hrv fun h=>ih (t+1) Qe

theorem yr(hf:Qh st)(hS:Y6 st F sp Tn S)(h6:Tn≤6)(wf:Zy Tn S)(hlen0:S.length+(2^(Tn-0+1)-1)≤1000000000)(hR:Jb st.h.get [] 1 (zC row) kr)(hoff: ∀c m o n y,kr=.sl c m o n y→ ¬F c)(hrl:row.length=2^Tn)(hrv: ∀x∈row,0≤x∧x≤1099511627776): ∃v st',QP 255 [.ptr sp 0 0,kr] st v st'∧ ∃i S',v=iN i∧Xc st st' F sp Tn S'∧Vj Tn S (2^(Tn+1)-1) S' i∧ ∀c,c<2^Tn→row[c]? =some (UH S' i c):=by
 have B:=Ql.UU (o:=ZL F sp Tn S) hf hS.at_ hS.hi;obtain⟨ks,cm,hrow,hrd,hlen,hbn⟩:=hS.at_.rd;have hpt:=JE h6
 have hrb:(row.length:Int)≤9223372036854775807:=by omega
 refine Jy Tryz.func255 Tryz.ntmps255 fun T K=>?_;have M:=B.mem;refine Qa 2 K M fun _ K=>?_;refine p1 K (U2 Zf rfl rfl) fun _ K=>?_;refine Qa 2 K M fun _ K=>?_;refine pg K rfl rfl (Q7 Jr rfl rfl (hR.len.trans (congrArg some (Qz _)))) fun _ K=>?_;refine Qa 3 K M fun _ K=>?_;refine pg K rfl rfl (Qi rfl (Qq (M.QX Q0 hrow.QH) (Qb Qr rfl))) fun _ K=>pg K rfl rfl (ZB (n:=Tn) rfl rfl Qe) fun _ K=>?_;refine Qa 2 K M fun _ K=>?_;refine oB K (Q8 rfl) rfl fun b17 _ e17 K=>?_;cases b17
 ·replace e17:(((row.length:Nat):Int)=((2^Tn:Nat):Int)):=by simpa using e17
  refine Qa 1 K M fun _ K=>?_;replace B:=B.step M;obtain⟨v19,st19,ev19,rfl,q19⟩:=FL (fo:=284) (fa:=[]) (fc:=[]) B.fresh (B.rd hf hR hoff) hrb (fun x hx st1 q=>aR q.fresh (hrv x hx).1 (hrv x hx).2);refine pg K rfl rfl (Qg rfl ev19) fun _ K=>?_;replace B:=B.quiet q19;have M:=B.mem;refine Qa 4 K M fun _ K=>?_;replace B:=B.step M;have hlo:=hlen0;obtain⟨v23,st23,ev23,i1,S1,rfl,hout1,m1,lv1,hev1⟩:=xX h6 hrl hrv Tn 0 (Nat.zero_add _) _ _ _ 0 B.fresh (B.HQ (k:=0) rfl) wf hlen0 QA (B.rd hf hR hoff) (B.off (k:=0) rfl hf hR hoff);refine p1 K (Qg rfl ev23) fun _ K=>?_;obtain⟨F1,B⟩:=B.Vd hout1;have M:=B.mem;refine Qa 1 K M ?_;refine⟨_,_,rfl,(B.step M).KJ,m1,fun c hc=>?_⟩;have:=hev1 c hc;rw[show TO 0 0 c=c by simp[TO]]at this;exact this
 replace e17: ¬(((row.length:Nat):Int)=((2^Tn:Nat):Int)):=by simpa using e17
 exfalso;omega
end
section
open Go Go.RowKit

def Uf{α:Type}:Nat→List α→List (α×AV)
 |_,[]=>[]
 |j,n::S=>(n,.int .i64 (j:Nat))::Uf (j+1) S
section
variable {α β:Type}
theorem EF: ∀(j:Nat) (S:List α) (n:α),Uf j (S++[n])=Uf j S++[(n,.int .i64 (j+S.length:Nat))]
 |j,[],n=>by simp[Uf]
 |j,x::S,n=>by
  rw[List.cons_append,Uf,Uf,EF (j+1) S n,List.cons_append,List.length_cons,show j+1+S.length=j+(S.length+1) by omega]
theorem Db: ∀{j:Nat} {S:List α} {n:α} {v:AV},(n,v)∈Uf j S→ ∃i:Nat,S[i]? =some n∧v=.int .i64 (j+i:Nat)
 |j,[],n,v,h=>by cases h
 |j,x::S,n,v,h=>by
  rcases List.mem_cons.1 h with e|h
  ·injection e with e1 e2
   subst e1 e2;exact⟨0,rfl,rfl⟩
  ·obtain⟨i,h1,h2⟩:=Db h;exact⟨i+1,h1,by rw[h2];congr 2;omega⟩
theorem Cn: ∀{j:Nat} {S:List α} {n:α},n∈S→ ∃v,(n,v)∈Uf j S
 |j,[],n,h=>by cases h
 |j,x::S,n,h=>by
  rcases List.mem_cons.1 h with rfl|h
  ·exact⟨_,List.mem_cons_self ..⟩
  ·obtain⟨v,hv⟩:=Cn (j:=j+1) h;exact⟨v,List.mem_cons_of_mem _ hv⟩
theorem Lb{S:List α}{n:α}(h:U1 (Uf 0 S) n=none):n∉S:=fun hm=>by
 obtain⟨v,hv⟩:=Cn (j:=0) hm;exact KZ h v hv
theorem La{S:List α}{n:α}{v:AV}(h:U1 (Uf 0 S) n=some v): ∃i:Nat,S[i]? =some n∧v=.int .i64 (i:Nat):=by
 obtain⟨i,h1,h2⟩:=Db (IL h);exact⟨i,h1,by rw[h2,Nat.zero_add]⟩
theorem XQ.comp{P:Program}{t:TypeId}{key:α→AV}{z:AV}(T:XQ P t key z)(f:β→α)(hi: ∀x y,f x=f y→x=y):XQ P t (fun x=>key (f x)) z:=by
 obtain⟨kt,et,d,u1,u2,u3,u4,u5,u6⟩:=T.rule;exact⟨kt,et,d,u1,u2,u3,fun a=>u4 _,fun a i=>u5 _ i,fun a b v n es i=>⟨fun h=>(u6 (f a) (f b) v n es i).1 (congrArg f h),fun h=>(u6 (f a) (f b) v n es i).2 fun e=>h (hi _ _ e)⟩⟩
end
abbrev Zw(p:Nat×Nat):AV:=.agg [.int .i64 (p.1:Nat),.int .i64 (p.2:Nat)]
theorem VK:XQ Tryz.prog 286 Zw (.int .i64 0):=jJ.comp (fun p:Nat×Nat=>(((p.1:Nat):Int),((p.2:Nat):Int))) fun x y e=>by
 injection e with e1 e2
 exact Prod.ext Qe Qe
end
section
open Go

theorem UT:tk Tryz.prog 311=.one:=by kernel_rfl
theorem QV:tk Tryz.prog 299=.one:=by kernel_rfl
theorem Zz:tk Tryz.prog 320=.one:=by kernel_rfl
end
end Go.Proofs.YtildagdnomiahaaGreatDoor
