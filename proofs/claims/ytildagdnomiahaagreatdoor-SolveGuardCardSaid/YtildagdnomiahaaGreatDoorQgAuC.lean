/-
  Automata: from rows, to rows.
-/
import Derived.Test.YtildagdnomiahaaGreatDoorQgAuA
set_option maxHeartbeats 8000000
set_option maxRecDepth 100000
set_option linter.unnecessarySimpa false
set_option linter.unusedSimpArgs false
set_option linter.unusedVariables false
namespace Go.Proofs.YtildagdnomiahaaGreatDoor
open Go Go.RowKit
section

abbrev zN(l:List Nat):List Int:=l.map fun r=>((r:Nat):Int)
theorem Ei(l:List Nat)(r:Nat):zN (l++[r])=zN l++[((r:Nat):Int)]:=by simp
section
variable {st0 st:St} {X0:Fp} {M A1 A2:QK} {Os:List Ob} {F1:Fp} {dp sp n0 n1:Nat} {ka kr:AV} {a:Au} {S:JW} {roots:List Nat}
theorem Qj.xV(B:Qj st0 X0 st ((dp,0,[ka,kr,.ptr sp 0 0])::(A1++(A2++M))) (ZC F1 sp a.tr S::Os))(hA1:Acc n0 1 A1 ka (bC a.acc))(hA2:Acc n1 1 A2 kr (zC (zN roots)))(wfS:Zo a.tr S)(wf:ZP a)(hl:roots.length=a.n)
  (hr: ∀(s r:Nat),roots[s]? =some r→r<S.length∧a.nx[s]? =some (VQ a.tr S r)): ∃F,Qj st0 X0 st M (Ak F dp a::Os):=by
 have h1:Je st.h.get [] 1 (bC a.acc) ka:=Mem.Zj (L:=[(dp,0,[ka,kr,.ptr sp 0 0])]) (B:=A2++M) B.mem hA1;have h2:Je st.h.get [] 1 (zC (zN roots)) kr:=Mem.Zj (L:=(dp,0,[ka,kr,.ptr sp 0 0])::A1) (B:=M) (B.mem.cast Qx) hA2;have h0:=B.row dp 0 _ (List.mem_cons_self ..);have B0:Qj st0 X0 st (((dp,0,[ka,kr,.ptr sp 0 0])::(A1++A2))++M) (ZC F1 sp a.tr S::Os):=B.cast Qx;have B1:=B0.freeze (o:=ZG ((dp,0,[ka,kr,.ptr sp 0 0])::(A1++A2))) (fun c m l hm=>B0.row c m l (List.mem_append_left _ hm)) (fun c hc=>hc)
 have f1:jB (ZG ((dp,0,[ka,kr,.ptr sp 0 0])::(A1++A2))).F ka:=fun c m o n y e=>by
  obtain⟨m,l,h⟩:=hA1.zi c m o n y e;exact⟨m,l,by simp[h]⟩
 have f2:jB (ZG ((dp,0,[ka,kr,.ptr sp 0 0])::(A1++A2))).F kr:=fun c m o n y e=>by
  obtain⟨m,l,h⟩:=hA2.zi c m o n y e;exact⟨m,l,by simp[h]⟩
 refine⟨fun c=>(ZG ((dp,0,[ka,kr,.ptr sp 0 0])::(A1++A2))).F c∨F1 c,B1.join (fun g1 g2=>?_) fun c hc=>hc⟩;exact⟨ka,kr,sp,F1,S,roots,h0,.inl ⟨_,_,List.mem_cons_self ..⟩,h1,fun c m o n y e=>.inl (f1 c m o n y e),h2,fun c m o n y e=>.inl (f2 c m o n y e),g2,fun c hc=>.inr hc,wfS,wf,hl,hr⟩
end
theorem TS{T:Nat}{S S':JW}(W:Zo T S)(h:S<+:S'){r:Nat}(hr:r<S.length):VQ T S' r=VQ T S r:=by
 unfold VQ;exact List.map_congr_left fun c _=>Yx W h hr c
theorem Dm{a:Au}{S S':JW}{rs:List Nat}{r i:Nat}{row:List Int}(wfS:Zo a.tr S)(wf':Zo a.tr S')(hp:S<+:S')(hr:r<S'.length)(hl:rs.length=i)(hi:a.nx[i]? =some row)(hrow:row.length=2^a.tr)(he: ∀c,c<2^a.tr→row[c]? =some (UF S' r c))
  (h: ∀(s r:Nat),rs[s]? =some r→r<S.length∧a.nx[s]? =some (VQ a.tr S r)): ∀(s q:Nat),(rs++[r])[s]? =some q→q<S'.length∧a.nx[s]? =some (VQ a.tr S' q):=by
 intro s q hs
 by_cases hlt:s<rs.length
 ·rw[List.getElem?_append_left hlt]at hs;obtain⟨h1,h2⟩:=h s q hs;exact⟨Nat.lt_of_lt_of_le h1 hp.length_le,by rw[h2,TS wfS hp h1]⟩
 ·have h3:=(List.getElem?_eq_some_iff.1 hs).1;rw[List.length_append,List.length_singleton]at h3
  have h4:s=rs.length:=by omega
  subst h4;rw[List.getElem?_append_right (Nat.le_refl _),Nat.sub_self]at hs
  injection hs with hs
  subst hs;exact⟨hr,by rw[hl,hi,uj hrow he]⟩

theorem VK{st:St}(hf:Qg st){a:Au}(wf:ZP a){ka kn:AV}{ls:List (List AV)}(hA:Je st.h.get [] 1 (bC a.acc) ka)(hN:Tz st.h.get a.nx kn ls): ∃v st',QR 208 [.agg [iZ (a.tr:Nat),ka,kn]] st v st'∧ ∃dp F,v=.tup [.ptr dp 0 0,iZ 0]∧JH st' F dp a∧XE st st' F∧Qt st st':=by
 have htr:=wf.tr;have hps:=wf.pos;have hmo:=wf.most;have hln:=wf.len;have hen:a.n=a.acc.length:=rfl;have hac:=hA.cell;have hnc:=hN.r.cell;have hp64:=JD wf.tr;have B:=Qj.start hf;refine Jq Tryz.func208 Tryz.ntmps208 fun T K=>?_;have M:=B.mem;refine Qb 0 K M fun _ K=>?_;refine J3 K M rfl (Qa rfl (Qa hA.cell (Qa hN.r.cell Q9))) Q8 fun c1 _ _ K M=>?_;refine Qb 3 K M fun _ K=>?_;replace B:=B.step M;obtain⟨v8,st8,ev8,rfl,q8⟩:=vh B.fresh wf (B.Dq hf hA) (hN.J0 hf fun c hc=>B.J0 c hc id);refine p1 K (Qf rfl ev8) fun _ K=>?_;replace B:=B.quiet q8;have M:=B.mem;refine Qb 2 K M fun _ K=>?_;refine QQ (l:=[(0,0),(1,0),(2,0),(3,0),(4,1),(5,0),(6,0),(7,0),(8,0)]) (by kernel_rfl) ?_;have Mq:=M;refine Yd 2 K M fun _ K=>?_;obtain⟨v12,st12,ev12,ks12,rfl,nr12,q12⟩:=Oa M.fresh ((B.step M).Dq hf hA) Qe;refine qA rfl K (Qf rfl ev12) fun _ K=>?_;obtain⟨A12,hA12,M⟩:=M.Y7 q12 nr12;simp only[Vk]at M;have Mp:=Mq;have Mq:=M;refine Yd 1 K M fun _ K=>?_;refine JC rfl K rfl (M.load (k:=0) rfl (Qc Qq rfl)) (Mp.load (k:=0) rfl (Qc Qq rfl)) (Ua rfl) rfl Q8 fun _ K=>?_;replace B:=B.step M;obtain⟨v15,st15,ev15,sp,F15,rfl,hS15,nf15,q15⟩:=R1 B.fresh wf.tr;refine qA rfl K (Qf rfl ev15) fun _ K=>?_;replace B:=B.new (o:=ZC F15 sp a.tr []) q15 hS15.at_ nf15;have M:=B.mem;have Mp:=Mq;have Mq:=M;refine q1 rfl K (AT H7 rfl ((Yr rfl hA12.cell rfl).trans ((NN rfl rfl rfl).trans rfl))) fun _ K=>?_;refine z7 rfl K M rfl (Qa hA12.cell (Qa rfl (Qa rfl Q9))) rfl fun c17 _ _ K M=>?_;refine q1 rfl K (Yo rfl) fun _ K=>Jf ?_;show W _ _ _ _ _ _ _;refine Qb 1 K M fun _ K=>?_;refine p1 K (Qh rfl (M.load (k:=1) rfl (Qc QP rfl))) fun _ K=>p1 K (Q4 UC rfl rfl hN.len) fun _ K=>?_;refine Qb 1 K M fun _ K=>?_;refine QV (fun mm1 T st9=> ∃(i:Nat) (rs:List Nat) (kr:AV) (A:QK) (F:Fp) (S:JW),mm1=a.nx.length-i∧QE [(2,.nilp),(3,iZ 0),(4,.ptr c17 0 0),(19,kn),(20,iZ (a.nx.length:Nat)),(21,iN i)] T∧Qj st WA st9 ((c17,0,[v12,kr,.ptr sp 0 0])::(c1,0,[iZ (a.tr:Nat),ka,kn])::(A12++(A++[]))) [ZC F sp a.tr S]∧Acc 0 1 A kr (zC (zN rs))∧i≤a.nx.length∧rs.length=i∧Zo a.tr S∧S.length≤i *127∧(∀(s r:Nat),rs[s]? =some r→r<S.length∧a.nx[s]? =some (VQ a.tr S r))) (fun mm1 T st9 hI=>?_) _ _ _ ⟨0,[],.nils,[],_,[],rfl,(K.sub rfl),(B.step M).less (.refl _),.none,(Nat.zero_le _),rfl,(Zo.nil _),(Nat.zero_le _),(fun s r h=>by simp at h)⟩;obtain⟨i,rs,kr,A,F,S,rfl,K,B,hA4,hi,hrl,wfS,hSl,hrs⟩:=hI;have M:=B.mem;refine Qb 1 K M fun _ K=>?_;refine Uk K rfl (fun h22=>?_) fun h22=>?_
 ·refine Qb 0 K M fun _ K=>?_;obtain⟨s23,hi23⟩:=YP a.nx i Qe;obtain⟨_,hc23,w23,rfl,hr23,hz23⟩:=hN.at_ _ _ hi23;refine oI ((B.step M).Dq hf hN.r) hc23 K J5 Jg rfl rfl rfl fun _ _ _ _ K=>?_;refine Qb 1 K M fun _ K=>?_;refine QQ (l:=[(5,0),(6,0),(7,0),(8,0),(9,0),(10,0),(1,0),(2,0),(3,0),(4,1),(11,0),(12,0),(0,0),(13,0),(14,0),(15,0)]) (by kernel_rfl) ?_;have Mq:=M;refine Yd 5 K M fun _ K=>?_;replace B:=B.step M;have hs24:=wf.row s23 (List.mem_of_getElem? hi23)
  have hlB:(S.length:Nat)+(2^(a.tr-0+1)-1)≤1000000000:=by rw[Nat.sub_zero,Nat.pow_succ];omega
  obtain⟨v35,st35,ev35,r35,S35,rfl,ho35,mb35,hev35⟩:=je B.fresh (B.H6 (k:=0) rfl) wf.tr wfS hlB (B.Dq hf hr23) (B.off (k:=0) rfl hf hr23 fun _ _ _ _ _ _=>id) hs24.1 (fun x hx=>by have:=hs24.2 x hx;omega);refine qA rfl K (Qf rfl ev35) fun _ K=>?_;obtain⟨F35,B⟩:=B.XP ho35;have M:=B.mem;have Mp:=Mq;have Mq:=M;refine Yd 3 K M fun _ K=>?_;refine JC rfl K rfl (M.load (k:=0) rfl (Qc Jg rfl)) (Mp.load (k:=0) rfl (Qc Jg rfl)) (Ua (Zd hA4.len)) rfl Q8 fun _ K=>?_;refine H2 rfl K M QT FI rfl rfl rfl rfl rfl fun c36 _ _ K M=>?_;refine Vq (k2:=0) (L:=((c36,0,[iN r35])::(c17,0,[v12,kr,.ptr sp 0 0])::(c1,0,[iZ (a.tr:Nat),ka,kn])::(A12++[]))) (B:=[]) rfl K (Mem.cast M Zg) hA4 QT rfl rfl rfl rfl (by simp only[Q0,List.length_map];omega) rfl fun ks37 A37 _ _ K hA37 M=>?_;simp only[Vk]at M;have Mp:=Mq;have Mq:=M;refine Yd 3 K M fun _ K=>?_;refine Xo (k:=1) rfl K M rfl rfl rfl IP (hA37.cell) rfl fun _ M=>?_;have Mp:=Mq;have Mq:=M;refine Jf ?_;show W _ _ _ _ _ _ _;refine Qb 2 K M fun _ K=>?_;exact⟨_,Qe,i+1,rs++[r35],ks37,A37,_,S35,rfl,(K.sub rfl),(B.step M).less (.cons _ (.refl _)),(by rw[Ei,Us];exact hA37),Qe,(by rw[List.length_append,hrl];rfl),mb35.wf,(by have:=mb35.len;rw[Nat.pow_succ]at this;omega),(Dm wfS mb35.wf mb35.pre mb35.lt hrl hi23 hs24.1 hev35 hrs)⟩
 refine QO ?_;show W _ _ _ _ _ _ _;refine Qb 3 K M ?_;obtain⟨F',B'⟩:=Qj.xV (M:=[]) (((B.step M).less ((.cons_cons _ (.cons _ (.refl _)))))) hA12 hA4 wfS wf Qe hrs;exact⟨_,F',rfl,B'.SU (k:=0) rfl,B'.ya (k:=0) rfl,B'.qt⟩
end
section
variable {s:Nat}

theorem IH{l:List Nat}{i r:Nat}(h:l[i]? =some r):(zC (zN l))[i]? =some [.int .i64 (r:Nat)]:=JA (by rw[List.getElem?_map,h];rfl)
theorem Au.wi{a:Au}{b:Bool}(h:a.acc[s]? =some b):a.ok s=b:=by unfold Au.ok;rw[h];rfl
structure It(st:St)(F:Fp)(dp:Nat)(a:Au)(ka kr:AV)(sp:Nat)(F1:Fp)(S:JW)(roots:List Nat):Prop where
 row:Qw st.h.get dp 0 [ka,kr,.ptr sp 0 0]
 dpF:F dp
 acc:Je st.h.get [] 1 (bC a.acc) ka
 accF:jB F ka
 rt:Je st.h.get [] 1 (zC (zN roots)) kr
 rtF:jB F kr
 H6:Ef st.h.get F1 sp a.tr S
 sub: ∀c,F1 c→F c
 wfS:Zo a.tr S
 wf:ZP a
 len:roots.length=a.n
 rts: ∀(s r:Nat),roots[s]? =some r→r<S.length∧a.nx[s]? =some (VQ a.tr S r)
 hi: ∀c,F c→c<st.n
theorem JH.x{st:St}{F:Fp}{dp:Nat}{a:Au}(hD:JH st F dp a): ∃ka kr sp F1 S roots,It st F dp a ka kr sp F1 S roots:=by
 obtain⟨ka,kr,sp,F1,S,roots,h1,h2,h3,h4,h5,h6,h7,h8,h9,h10,h11,h12⟩:=hD.at_;exact⟨ka,kr,sp,F1,S,roots,h1,h2,h3,h4,h5,h6,h7,h8,h9,h10,h11,h12,hD.hi⟩
section
variable {st st':St} {F:Fp} {dp:Nat} {a:Au} {ka kr:AV} {sp:Nat} {F1:Fp} {S:JW} {roots:List Nat}
theorem It.q(hX:It st F dp a ka kr sp F1 S roots)(q:Qt st st'):It st' F dp a ka kr sp F1 S roots:=by
 have e: ∀c,F c→st'.h.get c=st.h.get c:=fun c hc=>q.J0 c (hX.hi c hc);exact⟨hX.row.frame (e dp hX.dpF),hX.dpF,hX.acc.frame fun c m o n y e'=>e c (hX.accF c m o n y e'),hX.accF,hX.rt.frame fun c m o n y e'=>e c (hX.rtF c m o n y e'),hX.rtF,hX.H6.frame fun c hc=>e c (hX.sub c hc),hX.sub,hX.wfS,hX.wf,hX.len,hX.rts,fun c hc=>Nat.lt_of_lt_of_le (hX.hi c hc) q.le⟩
theorem It.i(hX:It st F dp a ka kr sp F1 S roots):Y0 st F1 sp a.tr S:=⟨hX.H6,fun c hc=>hX.hi c (hX.sub c hc)⟩
end
theorem SV{st:St}(hf:Qg st){F:Fp}{dp:Nat}{a:Au}{ka kr:AV}{sp:Nat}{F1:Fp}{S:JW}{roots:List Nat}(hX:It st F dp a ka kr sp F1 S roots): ∃v st',QR 164 [.ptr dp 0 0] st v st'∧v=.ptr sp 0 0∧Qt st st':=by
 have wf:=hX.wf;have hen:a.n=a.acc.length:=rfl;have hrl:=hX.len;refine Jq Tryz.func164 Tryz.ntmps164 fun T K=>?_;have M:=Mem.start hf;refine Qb 2 K M fun _ K=>?_;refine p1 K (U0 J2 rfl rfl) fun _ K=>?_;refine Qb 4 K M fun _ K=>?_;refine p1 K (Qh rfl (Qp (M.QY Qx hX.row.QF) (Qc Jh rfl))) fun _ K=>?_;refine Qb 1 K M ?_;exact⟨rfl,M.qt⟩

theorem Lc{st:St}(hf:Qg st){F:Fp}{dp:Nat}{a:Au}{ka kr:AV}{sp:Nat}{F1:Fp}{S:JW}{roots:List Nat}(hX:It st F dp a ka kr sp F1 S roots): ∃v st',QR 107 [.ptr dp 0 0] st v st'∧v=iZ (a.tr:Nat)∧Qt st st':=by
 have wf:=hX.wf;have hen:a.n=a.acc.length:=rfl;have hrl:=hX.len;refine Jq Tryz.func107 Tryz.ntmps107 fun T K=>?_;have M:=Mem.start hf;refine Qb 2 K M fun _ K=>?_;refine oQ K M (SV M.fresh (hX.q M.qt)) rfl rfl fun _ _ K M=>?_;refine oQ K M (Wi M.fresh (hX.q M.qt).i) rfl rfl fun _ _ K M=>?_;refine Qb 1 K M ?_;exact⟨rfl,M.qt⟩

theorem YQ{st:St}(hf:Qg st){F:Fp}{dp:Nat}{a:Au}(hD:JH st F dp a): ∃v st',QR 107 [.ptr dp 0 0] st v st'∧v=.int .i64 (a.tr:Nat)∧Qt st st':=by
 obtain⟨_,_,_,_,_,_,hX⟩:=hD.x;exact Lc hf hX

theorem Ld{st:St}(hf:Qg st){F:Fp}{dp:Nat}{a:Au}{ka kr:AV}{sp:Nat}{F1:Fp}{S:JW}{roots:List Nat}(hX:It st F dp a ka kr sp F1 S roots): ∃v st',QR 158 [.ptr dp 0 0] st v st'∧v=iZ (a.n:Nat)∧Qt st st':=by
 have wf:=hX.wf;have hen:a.n=a.acc.length:=rfl;have hrl:=hX.len;refine Jq Tryz.func158 Tryz.ntmps158 fun T K=>?_;have M:=Mem.start hf;refine Qb 2 K M fun _ K=>?_;refine p1 K (U0 J2 rfl rfl) fun _ K=>?_;refine Qb 4 K M fun _ K=>?_;refine p1 K (Qh rfl (Qp (M.QY Qx hX.row.QF) (Qc JJ rfl))) fun _ K=>p1 K (Q4 Vr rfl rfl (hX.acc.len.trans (congrArg some (XA _)))) fun _ K=>?_;refine Qb 1 K M ?_;exact⟨rfl,M.qt⟩

theorem E5{st:St}(hf:Qg st){F:Fp}{dp:Nat}{a:Au}(hD:JH st F dp a): ∃v st',QR 158 [.ptr dp 0 0] st v st'∧v=.int .i64 (a.n:Nat)∧Qt st st':=by
 obtain⟨_,_,_,_,_,_,hX⟩:=hD.x;exact Ld hf hX

theorem xQ{st:St}(hf:Qg st){F:Fp}{dp:Nat}{a:Au}{ka kr:AV}{sp:Nat}{F1:Fp}{S:JW}{roots:List Nat}(hX:It st F dp a ka kr sp F1 S roots)(hs:s<a.n): ∃v st',QR 259 [.ptr dp 0 0,iN s] st v st'∧v=.bool true∧Qt st st':=by
 have wf:=hX.wf;have hen:a.n=a.acc.length:=rfl;have hrl:=hX.len;refine Jq Tryz.func259 Tryz.ntmps259 fun T K=>?_;have M:=Mem.start hf;refine Qb 3 K M fun _ K=>?_;refine Uv K rfl (fun _ e7 K=>?_) fun _ e7 K=>?_
 ·exfalso;omega
 refine Qb 2 K M fun _ K=>?_;obtain⟨v10,st10,ev10,rfl,q10⟩:=Ld M.fresh (hX.q M.qt);refine pg K rfl rfl (Qf rfl ev10) fun _ K=>?_;replace M:=M.quiet q10;refine Qb 3 K M ?_;exact⟨congrArg AV.bool (decide_eq_true Qe),M.qt⟩

theorem Cq{st:St}(hf:Qg st){F:Fp}{dp:Nat}{a:Au}{ka kr:AV}{sp:Nat}{F1:Fp}{S:JW}{roots:List Nat}(hX:It st F dp a ka kr sp F1 S roots)(hs:s<a.n): ∃v st',QR 207 [.ptr dp 0 0,iN s] st v st'∧v=.bool (a.ok s)∧Qt st st':=by
 have wf:=hX.wf;have hen:a.n=a.acc.length:=rfl;have hrl:=hX.len;have hsa:s<a.acc.length:=hs;refine Jq Tryz.func207 Tryz.ntmps207 fun T K=>?_;have M:=Mem.start hf;refine Qb 3 K M fun _ K=>?_;refine oQ K M (xQ M.fresh (hX.q M.qt) hs) rfl rfl fun _ _ K M=>?_;refine Qb 4 K M fun _ K=>?_;refine pg K rfl rfl (Qh rfl (Qp (M.QY Qx hX.row.QF) (Qc JJ rfl))) fun _ K=>?_;refine Qb 1 K M fun _ K=>?_;obtain⟨y14,hi14⟩:=YP a.acc s Qe;obtain⟨x14,m14,f14,q14,_,la14,lo14,lp14⟩:=(Je.mem M hX.acc Qx).load (i:=s) (cs:=_) (xX hi14);refine pg K rfl rfl (Qs (j:=s) U5 (congrArg some q14) rfl (by rw[XA];omega)) fun _ K=>pg K rfl rfl (Qh rfl (lo14 _ 0 _ XJ rfl)) fun _ K=>?_;refine Qb 2 K M ?_;exact⟨congrArg AV.bool (Au.wi hi14).symm,M.qt⟩

theorem YC{st:St}(hf:Qg st){F:Fp}{dp:Nat}{a:Au}(hD:JH st F dp a)(hs:s<a.n): ∃v st',QR 207 [.ptr dp 0 0,.int .i64 (s:Nat)] st v st'∧v=.bool (a.ok s)∧Qt st st':=by
 obtain⟨_,_,_,_,_,_,hX⟩:=hD.x;exact Cq hf hX hs

end
end Go.Proofs.YtildagdnomiahaaGreatDoor
