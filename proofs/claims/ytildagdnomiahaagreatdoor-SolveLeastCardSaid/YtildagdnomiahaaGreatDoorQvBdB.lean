/-
  What hangs on letters: made.
-/
import Derived.Test.YtildagdnomiahaaGreatDoorQvBdA
namespace Go.Proofs.YtildagdnomiahaaGreatDoor
open Go Go.RowKit
set_option maxHeartbeats 8000000
set_option linter.unusedVariables false
set_option linter.unusedSimpArgs false
set_option linter.unnecessarySimpa false
set_option maxRecDepth 100000
variable {F:Fp} {S:Uf} {T Tn a c sp t:Nat} {fa fc:List AV} {fo:FuncId} {kl kr:AV} {l row:List Int} {st:St} {x:Int}

theorem JL(h:T≤6):2^T≤64:=Nat.le_trans (Nat.pow_le_pow_right Q9 h) Q9
theorem TQ(S:Uf)(i:Nat)(h:c<2^T):(WB T S i).take (c+1)=(WB T S i).take c++[US S i c]:=by
 rw[List.take_add_one,CP S i h];rfl
def M3(t a c:Nat):Nat:=a+c/2^t *2^t
theorem vq(h:c.testBit t=false):M3 (t+1) a c=M3 t a c:=by
 unfold M3
 have h1:c/2^t % 2=0:=by
  rw[Nat.testBit_eq_decide_div_mod_eq,decide_eq_false_iff_not]at h;omega
 have h2:c/2^(t+1)=c/2^t/2:=by rw[Nat.pow_succ,Nat.div_div_eq_div_mul]
 rw[h2,Nat.pow_succ]
 have h3:c/2^t/2 *2=c/2^t:=by omega
 rw[Nat.mul_comm (2^t) 2,←Nat.mul_assoc,h3]
theorem uJ(h:c.testBit t=true):M3 (t+1) (a+2^t) c=M3 t a c:=by
 unfold M3
 have h1:c/2^t % 2=1:=by
  rw[Nat.testBit_eq_decide_div_mod_eq,decide_eq_true_eq]at h;exact h
 have h2:c/2^(t+1)=c/2^t/2:=by rw[Nat.pow_succ,Nat.div_div_eq_div_mul]
 rw[h2,Nat.pow_succ]
 have h3:c/2^t/2 *2+1=c/2^t:=by omega
 rw[Nat.mul_comm (2^t) 2,←Nat.mul_assoc]
 conv=>rhs;rw[←h3]
 rw[Nat.succ_mul];omega
theorem eW(h:a<2^t):a|||2^t=a+2^t:=by
 have:=Nat.two_pow_add_eq_or_of_lt h 1;rw[Nat.mul_one]at this;rw[Nat.or_comm,←this,Nat.add_comm]
theorem Rb{P:Program}{G:Env}{K:List (Nat×AV)}{t yt:TypeId}{x y:Operand}{b e:Nat}(he:a|||b=e)(hx:QG G K x=some (.int .i64 (a:Nat)))(hy:QG G K y=some (.int .i64 (b:Nat)))(ha:a≤9223372036854775807)(hb:b≤9223372036854775807):Us P G K (.binOp .or t x y yt) st (.int .i64 (e:Nat)) st:=he▸eM hx hy ha hb
theorem V7.more{S':Uf}{k k' i:Nat}(h:V7 T S k S' i)(hk:k≤k'):V7 T S k' S' i:=⟨h.wf,h.pre,h.lt,Nat.le_trans h.len Qd⟩
theorem vO(hf:Qh st)(hS:YO st F sp Tn S)(h6:Tn≤6)(wf:ZI Tn S){i:Nat}(hi:i<S.length): ∃v st',QV 213 [.ptr sp 0 0,iN i] st v st'∧ ∃kr,v=kr∧HB st st' 1 kr (zC (WB Tn S i))∧Qt st st':=by
 have hp:=JL h6;refine Jv Tryz.func213 Tryz.ntmps213 fun T K=>?_;have M:=Mem.start hf;refine Qb 3 K M fun _ K=>?_;obtain⟨v9,st9,ev9,rfl,q9⟩:=NA M.fresh (hS.q M.qt) hi;refine p1 K (Qf rfl ev9) fun _ K=>?_;replace M:=M.quiet q9;refine Qb 4 K M fun _ K=>?_;refine oQ K M (WT M.fresh (hS.q M.qt)) rfl rfl fun _ _ K M=>?_;refine p1 K (ZX (n:=Tn) rfl rfl Qd) fun _ K=>?_;refine Qb 1 K M fun _ K=>?_;refine Je (fun mm1 T st9=> ∃(c:Nat) (kr:AV) (A:Uc),mm1=2^Tn-c∧QH [(0,.ptr sp 0 0),(1,iN i),(4,.nils),(5,kr),(13,iZ (2^Tn:Nat)),(14,iN c)] T∧Mem st.h.get st.n [] st9 (A++[])∧Acc st.n 1 A kr (zC ((WB Tn S i).take c))∧c≤2^Tn) (fun mm1 T st9 hI=>?_) _ _ _ ⟨0,.nils,[],rfl,(K.sub rfl),M.less (.refl _),(by rw[List.take_zero];exact .none),(Nat.zero_le _)⟩;obtain⟨c,kr,A,rfl,K,M,hA,hc⟩:=hI;refine Qb 1 K M fun _ K=>?_;refine U8 K rfl (fun h15=>?_) fun h15=>?_
 ·refine Qb 6 K M fun _ K=>?_;refine oQ K M (zg (c:=c) M.fresh (hS.q M.qt) h6 wf hi Qd) rfl rfl fun _ _ K M=>?_;refine au 1 K M ?_;intro c22 _ _ K _ M;refine FK (k2:=0) (L:=[(c22,0,[iZ ((US S i c))])]) (B:=[]) K M hA QR rfl rfl rfl rfl (by rw[Qy,List.length_take,Lx];have:=Nat.min_le_right c (2^Tn);omega) rfl fun ks23 A23 _ _ K hA23 M=>?_;refine Qb 3 K M fun _ K=>?_;exact⟨_,Qd,c+1,ks23,A23,rfl,(K.sub rfl),M.less (.cons _ (.refl _)),(by rw[TQ S i Qd,JJ];exact hA23),Qd⟩
 refine QM ?_;show W _ _ _ _ _ _ _;refine Qb 2 K M ?_;refine⟨_,rfl,?_,M.qt⟩;rw[List.take_of_length_le (by rw[Lx];omega)]at hA;have h:=Mem.xW (L:=[]) (B:=[]) M hA
 simpa using h

theorem LS(hf:Qh st)(h1:0≤x)(h2:x≤1099511627776): ∃v st',QV 285 [iZ x] st v st'∧v=.bool true∧Qt st st':=by
 refine Jv Tryz.func285 Tryz.ntmps285 fun T K=>?_;have M:=Mem.start hf;refine Qb 3 K M fun _ K=>?_;refine U5 K rfl (fun _ e5 K=>?_) fun _ e5 K=>?_
 ·exfalso;omega
 refine Qb 4 K M ?_;exact⟨congrArg AV.bool (decide_eq_true h2),M.qt⟩

theorem Tu(hf:Qh st)(h6:Tn≤6): ∃v st',QV 254 [iN Tn] st v st'∧ ∃sp F,v=.ptr sp 0 0∧YO st' F sp Tn []∧Vn st st' F∧Qt st st':=by
 have B:=Ql.start hf;refine Jv Tryz.func254 Tryz.ntmps254 fun T K=>?_;have M:=B.mem;refine Qb 3 K M fun _ K=>?_;refine U5 K rfl (fun _ e5 K=>?_) fun _ e5 K=>?_
 ·refine Qb 3 K M fun _ K=>?_;refine U8 K rfl (fun h8=>?_) fun h8=>?_
  ·exfalso;omega
  refine Qb 1 K M fun _ K=>?_;replace B:=B.step M;refine VN Eh K B rfl fun c10 _ _ K B=>?_;have M:=B.mem;refine au 3 K M ?_;intro c12 _ _ K _ M;refine Qb 0 K M ?_;obtain⟨F,B'⟩:=Ql.RM (M:=[]) (Os:=[]) (A:=[]) (S:=[]) (B.step M) .none;exact⟨_,F,rfl,B'.ID (k:=0) rfl,B'.ve (k:=0) rfl,B'.qt⟩
 exfalso;omega

theorem zf(hf:Qh st)(hS:YO st F sp Tn S)(hl:S.length<1000000000)(nd:Bn): ∃v st',QV 324 [.ptr sp 0 0,(Eh nd)] st v st'∧ ∃i S',v=iN i∧Cd S nd i S'∧X2 st st' F sp Tn S':=by
 have B0:=Ql.UD (o:=Xi F sp Tn S) hf hS.at_ hS.hi;obtain⟨ks,cm,A,B,hA⟩:=B0.iO;have hbl:J8 ks=some S.length:=hA.len.trans (congrArg some (List.length_map ..));refine Jv Tryz.func324 Tryz.ntmps324 fun T K=>?_;have M:=B.mem;replace M:=Mem.cast (M':=((sp,0,[iN Tn,ks,.mp cm])::(A++[]))) M Qx;replace B:=B.cast (show _=((sp,0,[iN Tn,ks,.mp cm])::(A++[])) by simp);replace M:=B.mem;refine Qb 6 K M fun _ K=>?_;refine p1 K (Wd uF ((B.step M).at_ (k:=0) rfl) rfl rfl) fun _ K=>?_;refine Qb 7 K M fun _ K=>?_;refine UJ K rfl (fun h17=>?_) fun h17=>?_
 ·have hb17:=h17
  replace h17:((U9 (Vg 0 S) nd).isSome)=false:=by simpa using h17
  refine Xc ?_
  have hnone:U9 (Vg 0 S) nd=none:=by cases hq:U9 (Vg 0 S) nd with|none=>rfl|some x=>rw[hq]at h17;cases h17
  refine Qb 4 K M fun _ K=>?_;refine p1 K (Q0 ZV rfl rfl hbl) fun _ K=>?_;refine Qb 7 K M fun _ K=>?_;refine VO K M VA Ek rfl ((Uw rfl (Ph nd) rfl).trans rfl) (Qa (Ph nd) QL) rfl rfl fun c29 _ _ K M=>?_;refine EZ (k2:=0) (L:=[(c29,0,[(Eh nd)]),(sp,0,[iN Tn,ks,.mp cm])]) (B:=[]) K M hA VA rfl rfl rfl (by rw[List.length_map];omega) rfl fun ks30 A30 _ _ K hA30 hN30 M=>?_;simp only[W4]at M;refine Qb 2 K M fun _ K=>?_;refine Jk (k:=1) K M rfl rfl rfl AN (hA30.cell) rfl fun _ M=>?_;refine Qb 6 K M fun _ K=>?_;replace B:=B.step M;refine FJ (j:=0) (a:=nd) K B rfl uF rfl rfl rfl rfl hnone fun _ B=>?_;have M:=B.mem;refine Qb 2 K M ?_;refine⟨S.length,S++[nd],rfl,.app (vg hnone),?_⟩;have hA':=hA30;rw[Bm]at hA'
  have e:Vg 0 S++[(nd,iZ (S.length:Nat))]=Vg 0 (S++[nd]):=by rw[Gk,Nat.zero_add]
  obtain⟨F',B'⟩:=Ql.RM (M:=[]) (Os:=[]) (A:=A30) (S:=S++[nd]) (by rw[←e];exact(B.step M).less (.cons _ (.refl _))) hA';exact B'.L7
 have hb17:=h17
 replace h17:((U9 (Vg 0 S) nd).isSome)=true:=by simpa using h17
 refine Qb 2 K M ?_
 obtain⟨v0,hv0⟩: ∃x,U9 (Vg 0 S) nd=some x:=by cases hq:U9 (Vg 0 S) nd with|none=>rw[hq]at h17;cases h17|some x=>exact⟨x,rfl⟩
 obtain⟨i,hi,rfl⟩:=vf hv0;refine⟨i,S,by rw[hv0];rfl,.inl ⟨hi,rfl⟩,?_⟩;obtain⟨F',B'⟩:=Ql.RM (M:=[]) (Os:=[]) (A:=A) (S:=S) (by simpa using B.step M) hA;exact B'.L7

theorem Pn(hf:Qh st)(hS:YO st F sp Tn S)(wf:ZI Tn S)(hl:S.length<1000000000)(h1:0≤x)(h2:x≤1099511627776): ∃v st',QV 304 [.ptr sp 0 0,iZ x] st v st'∧ ∃i S',v=iN i∧X2 st st' F sp Tn S'∧V7 Tn S 1 S' i∧lvl Tn S' i=Tn∧ ∀c,US S' i c=x:=by
 have B:=Ql.UD (o:=Xi F sp Tn S) hf hS.at_ hS.hi;refine Jv Tryz.func304 Tryz.ntmps304 fun T K=>?_;have M:=B.mem;refine Qb 2 K M fun _ K=>?_;refine p1 K (UA Zy rfl rfl) fun _ K=>?_;refine Qb 2 K M fun _ K=>?_;obtain⟨v9,st9,ev9,rfl,q9⟩:=LS M.fresh h1 h2;refine pg K rfl rfl (Qf rfl ev9) fun _ K=>?_;replace M:=M.quiet q9;refine Qb 6 K M fun _ K=>?_;refine p1 K (E0 rfl (Bi _)) fun _ K=>?_;replace B:=B.step M;obtain⟨v16,st16,ev16,i16,S16,rfl,hput,hout⟩:=zf M.fresh (B.ID (k:=0) rfl) Qd (.leaf x);refine p1 K (Qf rfl ev16) fun _ K=>?_;obtain⟨F',B⟩:=B.V2 hout;have M:=B.mem;refine Qb 1 K M ?_;obtain⟨h3,h4,h5⟩:=vh hput wf ⟨h1,h2⟩;exact⟨_,_,rfl,(B.step M).L7,h3,h4,h5⟩

theorem zd(hf:Qh st)(hS:YO st F sp Tn S)(wf:ZI Tn S)(hlen:S.length<1000000000){l h:Nat}(ht:t<Tn)(hl:l<S.length)(hh:h<S.length)(h1:t<lvl Tn S l)(h2:t<lvl Tn S h): ∃v st',QV 305 [.ptr sp 0 0,iN t,iN l,iN h] st v st'∧ ∃i S',v=iN i∧X2 st st' F sp Tn S'∧V7 Tn S 1 S' i∧t≤lvl Tn S' i∧ ∀c,US S' i c=if c.testBit t then US S h c else US S l c:=by
 have B:=Ql.UD (o:=Xi F sp Tn S) hf hS.at_ hS.hi;refine Jv Tryz.func305 Tryz.ntmps305 fun T K=>?_;have M:=B.mem;refine Qb 3 K M fun _ K=>?_;refine U5 K rfl (fun _ e12 K=>?_) fun _ e12 K=>?_
 ·refine Qb 2 K M fun _ K=>?_;replace B:=B.step M;obtain⟨v15,st15,ev15,rfl,q15⟩:=WT M.fresh (B.ID (k:=0) rfl);refine pg K rfl rfl (Qf rfl ev15) fun _ K=>?_;replace B:=B.quiet q15;have M:=B.mem;refine Qb 2 K M fun _ K=>?_;refine U5 K rfl (fun _ e18 K=>?_) fun _ e18 K=>?_
  ·refine Qb 3 K M fun _ K=>?_;replace B:=B.step M;obtain⟨v22,st22,ev22,rfl,q22⟩:=Gw M.fresh (B.ID (k:=0) rfl) hl t ht;refine pg K rfl rfl (Qf rfl ev22) fun _ K=>?_;replace B:=B.quiet q22;have M:=B.mem;refine Qb 2 K M fun _ K=>?_;refine oB K (Q8 rfl) rfl fun b25 _ e25 K=>?_;cases b25
   ·replace e25:(t<lvl Tn S l):=by simpa using e25
    refine Qb 3 K M fun _ K=>?_;replace B:=B.step M;obtain⟨v29,st29,ev29,rfl,q29⟩:=Gw M.fresh (B.ID (k:=0) rfl) hh t ht;refine pg K rfl rfl (Qf rfl ev29) fun _ K=>?_;replace B:=B.quiet q29;have M:=B.mem;refine Qb 3 K M fun _ K=>?_;refine kW K rfl (fun h9=>?_) fun h9=>?_
    ·exfalso;omega
    refine Qb 4 K M fun _ K=>?_;refine U8 K rfl (fun h32=>?_) fun h32=>?_
    ·refine Qb 2 K M ?_;obtain⟨h3,h4,h5⟩:=wz (.inl ⟨by omega,rfl,rfl⟩) wf ht hl hh h1 h2;exact⟨_,_,rfl,(B.step M).L7,h3,h4,h5⟩
    refine Qb 5 K M fun _ K=>?_;refine p1 K (E0 rfl (Bj _)) fun _ K=>?_;replace B:=B.step M;obtain⟨v43,st43,ev43,i43,S43,rfl,hput,hout⟩:=zf M.fresh (B.ID (k:=0) rfl) Qd (.fork t l h);refine p1 K (Qf rfl ev43) fun _ K=>?_;obtain⟨F',B⟩:=B.V2 hout;have M:=B.mem;refine Qb 1 K M ?_;obtain⟨h3,h4,h5⟩:=wz (.inr ⟨by omega,hput⟩) wf ht hl hh h1 h2;exact⟨_,_,rfl,(B.step M).L7,h3,h4,h5⟩
   replace e25: ¬(t<lvl Tn S l):=by simpa using e25
   exfalso;omega
  exfalso;omega
 exfalso;omega

theorem Gc(hf:Qh st)(hl:Jg st.h.get [] 1 (zC l) kl)(hb:(l.length:Int)≤9223372036854775807){p:Int→Bool}(hC: ∀(x:Int),x∈l→ ∀(st1:St),Qt st st1→ ∃v st',QV fo (fa++([iZ x]++fc)) st1 v st'∧v=.bool (p x)∧Qt st1 st'): ∃v st',QV 162 [kl,(AV.fn fo fa fc)] st v st'∧v=iZ (AF p l 0)∧Qt st st':=by
 refine Jv Tryz.func162 Tryz.ntmps162 fun T K=>?_;have M:=Mem.start hf;refine Qb 2 K M fun _ K=>?_;refine p1 K (Q0 Jm rfl rfl (hl.len.trans (congrArg some (Qy _)))) fun _ K=>?_;refine Qb 1 K M fun _ K=>?_;refine Je (fun mm1 T st9=> ∃(i:Nat),mm1=l.length-i∧QH [(0,kl),(1,(AV.fn fo fa fc)),(7,iZ (l.length:Nat)),(8,iN i)] T∧Mem st.h.get st.n [] st9 []∧i≤l.length∧AF p l 0=AF p (l.drop i) i) (fun mm1 T st9 hI=>?_) _ _ _ ⟨0,rfl,(K.sub rfl),M.less (.refl _),(Nat.zero_le _),rfl⟩;obtain⟨i,rfl,K,M,hi,hx⟩:=hI;refine Qb 1 K M fun _ K=>?_;refine U8 K rfl (fun h9=>?_) fun h9=>?_
 ·refine Qb 5 K M fun _ K=>?_;obtain⟨y14,hi14⟩:=YL l i Qd;refine oI (Jg.mem M hl Qx) (JG hi14) K QD Qs rfl rfl rfl fun _ _ _ _ K=>?_;obtain⟨v16,st16,ev16,rfl,q16⟩:=hC y14 (List.mem_of_getElem? hi14) _ M.qt;refine p1 K (Z2 rfl rfl ev16) fun _ K=>?_;replace M:=M.quiet q16;refine Qb 0 K M fun _ K=>?_;refine UJ K rfl (fun h16=>?_) fun h16=>?_
  ·have hb16:=h16;refine Qb 2 K M ?_;exact⟨by rw[hx,Aq hi14,if_pos h16],M.qt⟩
  have hb16:=h16;refine Qb 2 K M fun _ K=>?_;exact⟨_,Qd,i+1,rfl,(K.sub rfl),M.less (.refl _),Qd,(by rw[hx,Aq hi14,if_neg (by rw[h16];decide)])⟩
 refine QM ?_;show W _ _ _ _ _ _ _;refine Qb 1 K M ?_;exact⟨by rw[hx,D3 Qd],M.qt⟩

theorem XE(hf:Qh st)(hl:Jg st.h.get [] 1 (zC l) kl)(hb:(l.length:Int)≤9223372036854775807){p:Int→Bool}(hC: ∀(x:Int),x∈l→ ∀(st1:St),Qt st st1→ ∃v st',QV fo (fa++([iZ x]++fc)) st1 v st'∧v=.bool (p x)∧Qt st1 st'): ∃v st',QV 210 [kl,(AV.fn fo fa fc)] st v st'∧v=.bool (l.any p)∧Qt st st':=by
 refine Jv Tryz.func210 Tryz.ntmps210 fun T K=>?_;have M:=Mem.start hf;refine Qb 3 K M fun _ K=>?_;refine oQ K M (Gc M.fresh (Jg.mem M hl Qx) hb (fun x hx st1 q=>hC x hx st1 (M.qt.trans q))) rfl rfl fun _ _ K M=>?_;refine Qb 2 K M ?_;exact⟨by rw[←D4 p l 0],M.qt⟩

theorem H5(hf:Qh st)(hl:Jg st.h.get [] 1 (zC l) kl)(hb:(l.length:Int)≤9223372036854775807)(hC: ∀(x:Int),x∈l→ ∀(st1:St),Qt st st1→ ∃v st',QV fo (fa++([.int .i64 x]++fc)) st1 v st'∧v=.bool false∧Qt st1 st'): ∃v st',QV 210 [kl,.fn fo fa fc] st v st'∧v=.bool false∧Qt st st':=by
 obtain⟨v,st',h1,h2,h3⟩:=XE (p:=fun _=>false) hf hl hb hC;exact⟨v,st',h1,by rw[h2];simp,h3⟩

theorem fG(hf:Qh st)(h1:0≤x)(h2:x≤1099511627776): ∃v st',QV 284 [iZ x] st v st'∧v=.bool false∧Qt st st':=by
 refine Jv Tryz.func284 Tryz.ntmps284 fun T K=>?_;have M:=Mem.start hf;refine Qb 2 K M fun _ K=>?_;refine oQ K M (LS M.fresh h1 h2) rfl rfl fun _ _ K M=>?_;refine Qb 2 K M ?_;exact⟨rfl,M.qt⟩

theorem yV(hf:Qh st)(hS:YO st F sp Tn S)(h6:Tn≤6)(wf:ZI Tn S)(ht:t≤Tn)(ha:a<2^t)(hlen0:S.length+(2^(Tn-t+1)-1)≤1000000000)(hR:Jg st.h.get [] 1 (zC row) kr)(hoff: ∀c m o n y,kr=.sl c m o n y→ ¬F c)(hrl:row.length=2^Tn)(hrv: ∀x∈row,0≤x∧x≤1099511627776)(ih:t<Tn→ ∀(st:St) (F:Fp) (S:Uf) (a:Nat),Qh st→YO st F sp Tn S→ZI Tn S→S.length+(2^(Tn-(t+1)+1)-1)≤1000000000→a<2^(t+1)→Jg st.h.get [] 1 (zC row) kr→(∀c m o n y,kr=.sl c m o n y→ ¬F c)→ ∃v st',QV 286 [.ptr sp 0 0,kr,iZ (t+1:Nat),iN a] st v st'∧ ∃i S',v=iN i∧X2 st st' F sp Tn S'∧V7 Tn S (2^(Tn-(t+1)+1)-1) S' i∧t+1≤lvl Tn S' i∧ ∀c,c<2^Tn→row[M3 (t+1) a c]? =some (US S' i c)): ∃v st',QV 286 [.ptr sp 0 0,kr,iN t,iN a] st v st'∧ ∃i S',v=iN i∧X2 st st' F sp Tn S'∧V7 Tn S (2^(Tn-t+1)-1) S' i∧t≤lvl Tn S' i∧ ∀c,c<2^Tn→row[M3 t a c]? =some (US S' i c):=by
 have B:=Ql.UD (o:=Xi F sp Tn S) hf hS.at_ hS.hi;obtain⟨ks,cm,hrow,hrd,hlen,hbn⟩:=hS.at_.rd;have hpt:=JL (show t≤6 by omega)
 have hp2:2^(t+1)=2 *2^t:=by rw[Nat.pow_succ,Nat.mul_comm]
 have hq0:1≤2^(Tn-t):=Nat.one_le_two_pow
 have hq1:2^(Tn-t+1)=2 *2^(Tn-t):=by rw[Nat.pow_succ,Nat.mul_comm]
 refine Jv Tryz.func286 Tryz.ntmps286 fun T K=>?_;have M:=B.mem;refine Qb 5 K M fun _ K=>?_;refine p1 K (Qi rfl (Qr (M.Jf Qx hrow.QI) (Qc Qs rfl))) fun _ K=>?_;refine Qb 1 K M fun _ K=>?_;refine U8 K rfl (fun h15=>?_) fun h15=>?_
 ·refine Xc ?_
  have htt:t=Tn:=by omega
  have harl:a<row.length:=by rw[hrl,←htt];exact ha
  refine Qb 3 K M fun _ K=>?_;obtain⟨y19,hi19⟩:=YL row a Qd;refine oI ((B.step M).rd hf hR hoff) (JG hi19) K QD Qs rfl rfl rfl fun _ _ _ _ K=>?_;replace B:=B.step M;obtain⟨hv1,hv2⟩:=hrv _ (List.mem_of_getElem? hi19);obtain⟨v21,st21,ev21,i1,S1,rfl,hout1,m1,lv1,hev1⟩:=Pn B.fresh (B.ID (k:=0) rfl) wf Qd hv1 hv2;refine p1 K (Qf rfl ev21) fun _ K=>?_;obtain⟨F1,B⟩:=B.V2 hout1;have M:=B.mem;refine Qb 1 K M ?_
  have e0: ∀c,c<2^Tn→M3 t a c=a:=fun c hc=>by
   unfold M3;rw[htt,Nat.div_eq_of_lt hc,Nat.zero_mul,Nat.add_zero]
  exact⟨_,_,rfl,(B.step M).L7,m1.more Qd,by omega,fun c hc=>by rw[e0 c hc,hi19,hev1]⟩
 refine Qb 0 K M fun _ K=>?_
 have ht1:t<Tn:=by omega
 have hq2:Tn-(t+1)+1=Tn-t:=by omega
 have hq3:2^(Tn-(t+1)+1)=2^(Tn-t):=by rw[hq2]
 refine Qb 5 K M fun _ K=>?_;replace B:=B.step M;obtain⟨v27,st27,ev27,i1,S1,rfl,hout1,m1,lv1,hev1⟩:=ih ht1 _ _ _ a B.fresh (B.ID (k:=0) rfl) wf (by skip;omega) Qd (B.rd hf hR hoff) (B.off (k:=0) rfl hf hR hoff);refine p1 K (Qf rfl ev27) fun _ K=>?_;obtain⟨F1,B⟩:=B.V2 hout1;have M:=B.mem;refine Qb 1 K M fun _ K=>?_;have hor:a|||2^t=a+2^t:=eW ha;refine Qb 9 K M fun _ K=>?_;refine p1 K (ZX (n:=t) rfl rfl Qd) fun _ K=>p1 K (Rb (a:=a) (b:=2^t) hor rfl rfl Qd Qd) fun _ K=>?_;replace B:=B.step M;obtain⟨v39,st39,ev39,i2,S2,rfl,hout2,m2,lv2,hev2⟩:=ih ht1 _ _ _ (a+2^t) B.fresh (B.ID (k:=0) rfl) m1.wf (by have:=m1.len;omega) Qd (B.rd hf hR hoff) (B.off (k:=0) rfl hf hR hoff);refine p1 K (Qf rfl ev39) fun _ K=>?_;obtain⟨F2,B⟩:=B.V2 hout2;have M:=B.mem;replace B:=B.step M;have hl1:=m1.len;have hl2:=m2.len;have hq2:=XB (T:=Tn) m2.pre m1.lt;have hq3:=m2.pre.length_le;have hlt1:=m1.lt;obtain⟨v40,st40,ev40,i3,S3,rfl,hout3,m3,lv3,hev3⟩:=zd B.fresh (B.ID (k:=0) rfl) m2.wf Qd ht1 (show i1<_ by omega) m2.lt Qd Qd;refine p1 K (Qf rfl ev40) fun _ K=>?_;obtain⟨F3,B⟩:=B.V2 hout3;have M:=B.mem;refine Qb 1 K M ?_;refine⟨_,_,rfl,(B.step M).L7,⟨m3.wf,m1.pre.trans (m2.pre.trans m3.pre),m3.lt,by have:=m3.len;omega⟩,lv3,fun c hc=>?_⟩;rw[hev3]
 cases hb:c.testBit t with
 |true=>rw[if_pos rfl,←uJ hb];exact hev2 c hc
 |false=>rw[if_neg Q9,YF m1.wf m2.pre m1.lt,←vq hb];exact hev1 c hc

theorem vL(h6:Tn≤6)(hrl:row.length=2^Tn)(hrv: ∀x∈row,0≤x∧x≤1099511627776): ∀k t,t+k=Tn→ ∀(st:St) (F:Fp) (S:Uf) (a:Nat),Qh st→YO st F sp Tn S→ZI Tn S→S.length+(2^(Tn-t+1)-1)≤1000000000→a<2^t→Jg st.h.get [] 1 (zC row) kr→(∀c m o n y,kr=.sl c m o n y→ ¬F c)→ ∃v st',QV 286 [.ptr sp 0 0,kr,.int .i64 (t:Nat),.int .i64 (a:Nat)] st v st'∧ ∃i S',v=.int .i64 (i:Nat)∧X2 st st' F sp Tn S'∧V7 Tn S (2^(Tn-t+1)-1) S' i∧t≤lvl Tn S' i∧ ∀c,c<2^Tn→row[M3 t a c]? =some (US S' i c):=by
 intro k
 induction k with
 |zero=>intro t ht st F S a hf hS wf hl ha hR hoff;exact yV hf hS h6 wf Qd ha hl hR hoff hrl hrv fun h=>by omega
 |succ k ih=>intro t ht st F S a hf hS wf hl ha hR hoff;exact yV hf hS h6 wf Qd ha hl hR hoff hrl hrv fun h=>ih (t+1) Qd

theorem zb(hf:Qh st)(hS:YO st F sp Tn S)(h6:Tn≤6)(wf:ZI Tn S)(hlen0:S.length+(2^(Tn-0+1)-1)≤1000000000)(hR:Jg st.h.get [] 1 (zC row) kr)(hoff: ∀c m o n y,kr=.sl c m o n y→ ¬F c)(hrl:row.length=2^Tn)(hrv: ∀x∈row,0≤x∧x≤1099511627776): ∃v st',QV 255 [.ptr sp 0 0,kr] st v st'∧ ∃i S',v=iN i∧X2 st st' F sp Tn S'∧V7 Tn S (2^(Tn+1)-1) S' i∧ ∀c,c<2^Tn→row[c]? =some (US S' i c):=by
 have B:=Ql.UD (o:=Xi F sp Tn S) hf hS.at_ hS.hi;obtain⟨ks,cm,hrow,hrd,hlen,hbn⟩:=hS.at_.rd;have hpt:=JL h6
 have hrb:(row.length:Int)≤9223372036854775807:=by omega
 refine Jv Tryz.func255 Tryz.ntmps255 fun T K=>?_;have M:=B.mem;refine Qb 2 K M fun _ K=>?_;refine p1 K (UA Zy rfl rfl) fun _ K=>?_;refine Qb 2 K M fun _ K=>?_;refine pg K rfl rfl (Q0 Jm rfl rfl (hR.len.trans (congrArg some (Qy _)))) fun _ K=>?_;refine Qb 3 K M fun _ K=>?_;refine pg K rfl rfl (Qi rfl (Qr (M.Jf Qx hrow.QI) (Qc Qs rfl))) fun _ K=>pg K rfl rfl (ZX (n:=Tn) rfl rfl Qd) fun _ K=>?_;refine Qb 2 K M fun _ K=>?_;refine oB K (Q8 rfl) rfl fun b17 _ e17 K=>?_;cases b17
 ·replace e17:(((row.length:Nat):Int)=((2^Tn:Nat):Int)):=by simpa using e17
  refine Qb 1 K M fun _ K=>?_;replace B:=B.step M;obtain⟨v19,st19,ev19,rfl,q19⟩:=H5 (fo:=284) (fa:=[]) (fc:=[]) B.fresh (B.rd hf hR hoff) hrb (fun x hx st1 q=>fG q.fresh (hrv x hx).1 (hrv x hx).2);refine pg K rfl rfl (Qf rfl ev19) fun _ K=>?_;replace B:=B.quiet q19;have M:=B.mem;refine Qb 4 K M fun _ K=>?_;replace B:=B.step M;have hlo:=hlen0;obtain⟨v23,st23,ev23,i1,S1,rfl,hout1,m1,lv1,hev1⟩:=vL h6 hrl hrv Tn 0 (Nat.zero_add _) _ _ _ 0 B.fresh (B.ID (k:=0) rfl) wf hlen0 Q9 (B.rd hf hR hoff) (B.off (k:=0) rfl hf hR hoff);refine p1 K (Qf rfl ev23) fun _ K=>?_;obtain⟨F1,B⟩:=B.V2 hout1;have M:=B.mem;refine Qb 1 K M ?_;refine⟨_,_,rfl,(B.step M).L7,m1,fun c hc=>?_⟩;have:=hev1 c hc;rw[show M3 0 0 c=c by simp[M3]]at this;exact this
 replace e17: ¬(((row.length:Nat):Int)=((2^Tn:Nat):Int)):=by simpa using e17
 exfalso;omega
end Go.Proofs.YtildagdnomiahaaGreatDoor
