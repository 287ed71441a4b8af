/-
  Automata: from rows, to rows.
-/
import Derived.Test.YtildagdnomiahaaGreatDoorQkAuA
set_option maxHeartbeats 8000000
set_option maxRecDepth 100000
set_option linter.unnecessarySimpa false
set_option linter.unusedSimpArgs false
set_option linter.unusedVariables false
namespace Go.Proofs.YtildagdnomiahaaGreatDoor
open Go Go.RowKit
section

abbrev zN(l:List Nat):List Int:=l.map fun r=>((r:Nat):Int)
theorem Ey(l:List Nat)(r:Nat):zN (l++[r])=zN l++[((r:Nat):Int)]:=by simp
section
variable {st0 st:St} {X0:Fp} {M A1 A2:QK} {Os:List Ob} {F1:Fp} {dp sp n0 n1:Nat} {ka kr:AV} {a:Au} {S:JW} {roots:List Nat}
theorem Ql.ax(B:Ql st0 X0 st ((dp,0,[ka,kr,.ptr sp 0 0])::(A1++(A2++M))) (ZL F1 sp a.tr S::Os))(hA1:Acc n0 1 A1 ka (bC a.acc))(hA2:Acc n1 1 A2 kr (zC (zN roots)))(wfS:Zy a.tr S)(wf:ZX a)(hl:roots.length=a.n)
  (hr: ∀(s r:Nat),roots[s]? =some r→r<S.length∧a.nx[s]? =some (Wg a.tr S r)): ∃F,Ql st0 X0 st M (A9 F dp a::Os):=by
 have h1:Jb st.h.get [] 1 (bC a.acc) ka:=Mem.Zs (L:=[(dp,0,[ka,kr,.ptr sp 0 0])]) (B:=A2++M) B.mem hA1;have h2:Jb st.h.get [] 1 (zC (zN roots)) kr:=Mem.Zs (L:=(dp,0,[ka,kr,.ptr sp 0 0])::A1) (B:=M) (B.mem.cast Q0) hA2;have h0:=B.row dp 0 _ (List.mem_cons_self ..);have B0:Ql st0 X0 st (((dp,0,[ka,kr,.ptr sp 0 0])::(A1++A2))++M) (ZL F1 sp a.tr S::Os):=B.cast Q0;have B1:=B0.freeze (o:=ZO ((dp,0,[ka,kr,.ptr sp 0 0])::(A1++A2))) (fun c m l hm=>B0.row c m l (List.mem_append_left _ hm)) (fun c hc=>hc)
 have f1:yQ (ZO ((dp,0,[ka,kr,.ptr sp 0 0])::(A1++A2))).F ka:=fun c m o n y e=>by
  obtain⟨m,l,h⟩:=hA1.vQ c m o n y e;exact⟨m,l,by simp[h]⟩
 have f2:yQ (ZO ((dp,0,[ka,kr,.ptr sp 0 0])::(A1++A2))).F kr:=fun c m o n y e=>by
  obtain⟨m,l,h⟩:=hA2.vQ c m o n y e;exact⟨m,l,by simp[h]⟩
 refine⟨fun c=>(ZO ((dp,0,[ka,kr,.ptr sp 0 0])::(A1++A2))).F c∨F1 c,B1.join (fun g1 g2=>?_) fun c hc=>hc⟩;exact⟨ka,kr,sp,F1,S,roots,h0,.inl ⟨_,_,List.mem_cons_self ..⟩,h1,fun c m o n y e=>.inl (f1 c m o n y e),h2,fun c m o n y e=>.inl (f2 c m o n y e),g2,fun c hc=>.inr hc,wfS,wf,hl,hr⟩
end
theorem qv{T:Nat}{S S':JW}(W:Zy T S)(h:S<+:S'){r:Nat}(hr:r<S.length):Wg T S' r=Wg T S r:=by
 unfold Wg;exact List.map_congr_left fun c _=>Y1 W h hr c
theorem Pg{a:Au}{S S':JW}{rs:List Nat}{r i:Nat}{row:List Int}(wfS:Zy a.tr S)(wf':Zy a.tr S')(hp:S<+:S')(hr:r<S'.length)(hl:rs.length=i)(hi:a.nx[i]? =some row)(hrow:row.length=2^a.tr)(he: ∀c,c<2^a.tr→row[c]? =some (UH S' r c))
  (h: ∀(s r:Nat),rs[s]? =some r→r<S.length∧a.nx[s]? =some (Wg a.tr S r)): ∀(s q:Nat),(rs++[r])[s]? =some q→q<S'.length∧a.nx[s]? =some (Wg a.tr S' q):=by
 intro s q hs
 by_cases hlt:s<rs.length
 ·rw[List.getElem?_append_left hlt]at hs;obtain⟨h1,h2⟩:=h s q hs;exact⟨Nat.lt_of_lt_of_le h1 hp.length_le,by rw[h2,qv wfS hp h1]⟩
 ·have h3:=(List.getElem?_eq_some_iff.1 hs).1;rw[List.length_append,List.length_singleton]at h3
  have h4:s=rs.length:=by omega
  subst h4;rw[List.getElem?_append_right (Nat.le_refl _),Nat.sub_self]at hs
  injection hs with hs
  subst hs;exact⟨hr,by rw[hl,hi,zA hrow he]⟩

theorem VX{st:St}(hf:Qh st){a:Au}(wf:ZX a){ka kn:AV}{ls:List (List AV)}(hA:Jb st.h.get [] 1 (bC a.acc) ka)(hN:MD st.h.get a.nx kn ls): ∃v st',QP 208 [.agg [iZ (a.tr:Nat),ka,kn]] st v st'∧ ∃dp F,v=.tup [.ptr dp 0 0,iZ 0]∧JH st' F dp a∧XP st st' F∧Qt st st':=by
 have htr:=wf.tr;have hps:=wf.pos;have hmo:=wf.most;have hln:=wf.len;have hen:a.n=a.acc.length:=rfl;have hac:=hA.cell;have hnc:=hN.r.cell;have hp64:=JE wf.tr;have B:=Ql.start hf;refine Jy Tryz.func208 Tryz.ntmps208 fun T K=>?_;have M:=B.mem;refine Qa 0 K M fun _ K=>?_;refine Uj K M rfl (Qc rfl (Qc hA.cell (Qc hN.r.cell QY))) QA fun c1 _ _ K M=>?_;refine Qa 3 K M fun _ K=>?_;replace B:=B.step M;obtain⟨v8,st8,ev8,rfl,q8⟩:=aO B.fresh wf (B.Pk hf hA) (hN.Jx hf fun c hc=>B.Jx c hc id);refine p1 K (Qg rfl ev8) fun _ K=>?_;replace B:=B.quiet q8;have M:=B.mem;refine Qa 2 K M fun _ K=>?_;refine QU (l:=[(0,0),(1,0),(2,0),(3,0),(4,1),(5,0),(6,0),(7,0),(8,0)]) (by kernel_rfl) ?_;have Mq:=M;refine Yq 2 K M fun _ K=>?_;obtain⟨v12,st12,ev12,ks12,rfl,nr12,q12⟩:=O5 M.fresh ((B.step M).Pk hf hA) Qe;refine qA rfl K (Qg rfl ev12) fun _ K=>?_;obtain⟨A12,hA12,M⟩:=M.YG q12 nr12;simp only[AH]at M;have Mp:=Mq;have Mq:=M;refine Yq 1 K M fun _ K=>?_;refine JL rfl K rfl (M.load (k:=0) rfl (Qb Qr rfl)) (Mp.load (k:=0) rfl (Qb Qr rfl)) (Ub rfl) rfl QA fun _ K=>?_;replace B:=B.step M;obtain⟨v15,st15,ev15,sp,F15,rfl,hS15,nf15,q15⟩:=S6 B.fresh wf.tr;refine qA rfl K (Qg rfl ev15) fun _ K=>?_;replace B:=B.new (o:=ZL F15 sp a.tr []) q15 hS15.at_ nf15;have M:=B.mem;have Mp:=Mq;have Mq:=M;refine q1 rfl K (Fj HS rfl ((Yu rfl hA12.cell rfl).trans ((Oq rfl rfl rfl).trans rfl))) fun _ K=>?_;refine wq rfl K M rfl (Qc hA12.cell (Qc rfl (Qc rfl QY))) rfl fun c17 _ _ K M=>?_;refine q1 rfl K (Ys rfl) fun _ K=>Ji ?_;show W _ _ _ _ _ _ _;refine Qa 1 K M fun _ K=>?_;refine p1 K (Qi rfl (M.load (k:=1) rfl (Qb QO rfl))) fun _ K=>p1 K (Q7 UD rfl rfl hN.len) fun _ K=>?_;refine Qa 1 K M fun _ K=>?_;refine Jc (fun mm1 T st9=> ∃(i:Nat) (rs:List Nat) (kr:AV) (A:QK) (F:Fp) (S:JW),mm1=a.nx.length-i∧QG [(2,.nilp),(3,iZ 0),(4,.ptr c17 0 0),(19,kn),(20,iZ (a.nx.length:Nat)),(21,iN i)] T∧Ql st WM st9 ((c17,0,[v12,kr,.ptr sp 0 0])::(c1,0,[iZ (a.tr:Nat),ka,kn])::(A12++(A++[]))) [ZL F sp a.tr S]∧Acc 0 1 A kr (zC (zN rs))∧i≤a.nx.length∧rs.length=i∧Zy a.tr S∧S.length≤i *127∧(∀(s r:Nat),rs[s]? =some r→r<S.length∧a.nx[s]? =some (Wg a.tr S r))) (fun mm1 T st9 hI=>?_) _ _ _ ⟨0,[],.nils,[],_,[],rfl,(K.sub rfl),(B.step M).less (.refl _),.none,(Nat.zero_le _),rfl,(Zy.nil _),(Nat.zero_le _),(fun s r h=>by simp at h)⟩;obtain⟨i,rs,kr,A,F,S,rfl,K,B,hA4,hi,hrl,wfS,hSl,hrs⟩:=hI;have M:=B.mem;refine Qa 1 K M fun _ K=>?_;refine UA K rfl (fun h22=>?_) fun h22=>?_
 ·refine Qa 0 K M fun _ K=>?_;obtain⟨s23,hi23⟩:=YY a.nx i Qe;obtain⟨_,hc23,w23,rfl,hr23,hz23⟩:=hN.at_ _ _ hi23;refine oI ((B.step M).Pk hf hN.r) hc23 K J4 Jd rfl rfl rfl fun _ _ _ _ K=>?_;refine Qa 1 K M fun _ K=>?_;refine QU (l:=[(5,0),(6,0),(7,0),(8,0),(9,0),(10,0),(1,0),(2,0),(3,0),(4,1),(11,0),(12,0),(0,0),(13,0),(14,0),(15,0)]) (by kernel_rfl) ?_;have Mq:=M;refine Yq 5 K M fun _ K=>?_;replace B:=B.step M;have hs24:=wf.row s23 (List.mem_of_getElem? hi23)
  have hlB:(S.length:Nat)+(2^(a.tr-0+1)-1)≤1000000000:=by rw[Nat.sub_zero,Nat.pow_succ];omega
  obtain⟨v35,st35,ev35,r35,S35,rfl,ho35,mb35,hev35⟩:=yr B.fresh (B.HQ (k:=0) rfl) wf.tr wfS hlB (B.Pk hf hr23) (B.off (k:=0) rfl hf hr23 fun _ _ _ _ _ _=>id) hs24.1 (fun x hx=>by have:=hs24.2 x hx;omega);refine qA rfl K (Qg rfl ev35) fun _ K=>?_;obtain⟨F35,B⟩:=B.Vd ho35;have M:=B.mem;have Mp:=Mq;have Mq:=M;refine Yq 3 K M fun _ K=>?_;refine JL rfl K rfl (M.load (k:=0) rfl (Qb Jd rfl)) (Mp.load (k:=0) rfl (Qb Jd rfl)) (Ub (ZV hA4.len)) rfl QA fun _ K=>?_;refine HM rfl K M QR FZ rfl rfl rfl rfl rfl fun c36 _ _ K M=>?_;refine V2 (k2:=0) (L:=((c36,0,[iN r35])::(c17,0,[v12,kr,.ptr sp 0 0])::(c1,0,[iZ (a.tr:Nat),ka,kn])::(A12++[]))) (B:=[]) rfl K (Mem.cast M Zr) hA4 QR rfl rfl rfl rfl (by simp only[Qz,List.length_map];omega) rfl fun ks37 A37 _ _ K hA37 M=>?_;simp only[AH]at M;have Mp:=Mq;have Mq:=M;refine Yq 3 K M fun _ K=>?_;refine Xw (k:=1) rfl K M rfl rfl rfl Kj (hA37.cell) rfl fun _ M=>?_;have Mp:=Mq;have Mq:=M;refine Ji ?_;show W _ _ _ _ _ _ _;refine Qa 2 K M fun _ K=>?_;exact⟨_,Qe,i+1,rs++[r35],ks37,A37,_,S35,rfl,(K.sub rfl),(B.step M).less (.cons _ (.refl _)),(by rw[Ey,Uv];exact hA37),Qe,(by rw[List.length_append,hrl];rfl),mb35.wf,(by have:=mb35.len;rw[Nat.pow_succ]at this;omega),(Pg wfS mb35.wf mb35.pre mb35.lt hrl hi23 hs24.1 hev35 hrs)⟩
 refine QT ?_;show W _ _ _ _ _ _ _;refine Qa 3 K M ?_;obtain⟨F',B'⟩:=Ql.ax (M:=[]) (((B.step M).less ((.cons_cons _ (.cons _ (.refl _)))))) hA12 hA4 wfS wf Qe hrs;exact⟨_,F',rfl,B'.Mk (k:=0) rfl,B'.xq (k:=0) rfl,B'.qt⟩
end
section
variable {s:Nat}

theorem Ka{l:List Nat}{i r:Nat}(h:l[i]? =some r):(zC (zN l))[i]? =some [.int .i64 (r:Nat)]:=JB (by rw[List.getElem?_map,h];rfl)
theorem Au.fW{a:Au}{b:Bool}(h:a.acc[s]? =some b):a.ok s=b:=by unfold Au.ok;rw[h];rfl
structure IB(st:St)(F:Fp)(dp:Nat)(a:Au)(ka kr:AV)(sp:Nat)(F1:Fp)(S:JW)(roots:List Nat):Prop where
 row:Qu st.h.get dp 0 [ka,kr,.ptr sp 0 0]
 dpF:F dp
 acc:Jb st.h.get [] 1 (bC a.acc) ka
 accF:yQ F ka
 rt:Jb st.h.get [] 1 (zC (zN roots)) kr
 rtF:yQ F kr
 HQ:Er st.h.get F1 sp a.tr S
 sub: ∀c,F1 c→F c
 wfS:Zy a.tr S
 wf:ZX a
 len:roots.length=a.n
 rts: ∀(s r:Nat),roots[s]? =some r→r<S.length∧a.nx[s]? =some (Wg a.tr S r)
 hi: ∀c,F c→c<st.n
theorem JH.x{st:St}{F:Fp}{dp:Nat}{a:Au}(hD:JH st F dp a): ∃ka kr sp F1 S roots,IB st F dp a ka kr sp F1 S roots:=by
 obtain⟨ka,kr,sp,F1,S,roots,h1,h2,h3,h4,h5,h6,h7,h8,h9,h10,h11,h12⟩:=hD.at_;exact⟨ka,kr,sp,F1,S,roots,h1,h2,h3,h4,h5,h6,h7,h8,h9,h10,h11,h12,hD.hi⟩
section
variable {st st':St} {F:Fp} {dp:Nat} {a:Au} {ka kr:AV} {sp:Nat} {F1:Fp} {S:JW} {roots:List Nat}
theorem IB.q(hX:IB st F dp a ka kr sp F1 S roots)(q:Qt st st'):IB st' F dp a ka kr sp F1 S roots:=by
 have e: ∀c,F c→st'.h.get c=st.h.get c:=fun c hc=>q.Jx c (hX.hi c hc);exact⟨hX.row.frame (e dp hX.dpF),hX.dpF,hX.acc.frame fun c m o n y e'=>e c (hX.accF c m o n y e'),hX.accF,hX.rt.frame fun c m o n y e'=>e c (hX.rtF c m o n y e'),hX.rtF,hX.HQ.frame fun c hc=>e c (hX.sub c hc),hX.sub,hX.wfS,hX.wf,hX.len,hX.rts,fun c hc=>Nat.lt_of_lt_of_le (hX.hi c hc) q.le⟩
theorem IB.i(hX:IB st F dp a ka kr sp F1 S roots):Y6 st F1 sp a.tr S:=⟨hX.HQ,fun c hc=>hX.hi c (hX.sub c hc)⟩
end
theorem Ml{st:St}(hf:Qh st){F:Fp}{dp:Nat}{a:Au}{ka kr:AV}{sp:Nat}{F1:Fp}{S:JW}{roots:List Nat}(hX:IB st F dp a ka kr sp F1 S roots): ∃v st',QP 164 [.ptr dp 0 0] st v st'∧v=.ptr sp 0 0∧Qt st st':=by
 have wf:=hX.wf;have hen:a.n=a.acc.length:=rfl;have hrl:=hX.len;refine Jy Tryz.func164 Tryz.ntmps164 fun T K=>?_;have M:=Mem.start hf;refine Qa 2 K M fun _ K=>?_;refine p1 K (U2 J1 rfl rfl) fun _ K=>?_;refine Qa 4 K M fun _ K=>?_;refine p1 K (Qi rfl (Qq (M.QX Q0 hX.row.QH) (Qb Je rfl))) fun _ K=>?_;refine Qa 1 K M ?_;exact⟨rfl,M.qt⟩

theorem Ly{st:St}(hf:Qh st){F:Fp}{dp:Nat}{a:Au}{ka kr:AV}{sp:Nat}{F1:Fp}{S:JW}{roots:List Nat}(hX:IB st F dp a ka kr sp F1 S roots): ∃v st',QP 107 [.ptr dp 0 0] st v st'∧v=iZ (a.tr:Nat)∧Qt st st':=by
 have wf:=hX.wf;have hen:a.n=a.acc.length:=rfl;have hrl:=hX.len;refine Jy Tryz.func107 Tryz.ntmps107 fun T K=>?_;have M:=Mem.start hf;refine Qa 2 K M fun _ K=>?_;refine oQ K M (Ml M.fresh (hX.q M.qt)) rfl rfl fun _ _ K M=>?_;refine oQ K M (Ws M.fresh (hX.q M.qt).i) rfl rfl fun _ _ K M=>?_;refine Qa 1 K M ?_;exact⟨rfl,M.qt⟩

theorem YZ{st:St}(hf:Qh st){F:Fp}{dp:Nat}{a:Au}(hD:JH st F dp a): ∃v st',QP 107 [.ptr dp 0 0] st v st'∧v=.int .i64 (a.tr:Nat)∧Qt st st':=by
 obtain⟨_,_,_,_,_,_,hX⟩:=hD.x;exact Ly hf hX

theorem Lz{st:St}(hf:Qh st){F:Fp}{dp:Nat}{a:Au}{ka kr:AV}{sp:Nat}{F1:Fp}{S:JW}{roots:List Nat}(hX:IB st F dp a ka kr sp F1 S roots): ∃v st',QP 158 [.ptr dp 0 0] st v st'∧v=iZ (a.n:Nat)∧Qt st st':=by
 have wf:=hX.wf;have hen:a.n=a.acc.length:=rfl;have hrl:=hX.len;refine Jy Tryz.func158 Tryz.ntmps158 fun T K=>?_;have M:=Mem.start hf;refine Qa 2 K M fun _ K=>?_;refine p1 K (U2 J1 rfl rfl) fun _ K=>?_;refine Qa 4 K M fun _ K=>?_;refine p1 K (Qi rfl (Qq (M.QX Q0 hX.row.QH) (Qb JJ rfl))) fun _ K=>p1 K (Q7 V3 rfl rfl (hX.acc.len.trans (congrArg some (XK _)))) fun _ K=>?_;refine Qa 1 K M ?_;exact⟨rfl,M.qt⟩

theorem EH{st:St}(hf:Qh st){F:Fp}{dp:Nat}{a:Au}(hD:JH st F dp a): ∃v st',QP 158 [.ptr dp 0 0] st v st'∧v=.int .i64 (a.n:Nat)∧Qt st st':=by
 obtain⟨_,_,_,_,_,_,hX⟩:=hD.x;exact Lz hf hX

theorem ak{st:St}(hf:Qh st){F:Fp}{dp:Nat}{a:Au}{ka kr:AV}{sp:Nat}{F1:Fp}{S:JW}{roots:List Nat}(hX:IB st F dp a ka kr sp F1 S roots)(hs:s<a.n): ∃v st',QP 259 [.ptr dp 0 0,iN s] st v st'∧v=.bool true∧Qt st st':=by
 have wf:=hX.wf;have hen:a.n=a.acc.length:=rfl;have hrl:=hX.len;refine Jy Tryz.func259 Tryz.ntmps259 fun T K=>?_;have M:=Mem.start hf;refine Qa 3 K M fun _ K=>?_;refine Uz K rfl (fun _ e7 K=>?_) fun _ e7 K=>?_
 ·exfalso;omega
 refine Qa 2 K M fun _ K=>?_;obtain⟨v10,st10,ev10,rfl,q10⟩:=Lz M.fresh (hX.q M.qt);refine pg K rfl rfl (Qg rfl ev10) fun _ K=>?_;replace M:=M.quiet q10;refine Qa 3 K M ?_;exact⟨congrArg AV.bool (decide_eq_true Qe),M.qt⟩

theorem Dh{st:St}(hf:Qh st){F:Fp}{dp:Nat}{a:Au}{ka kr:AV}{sp:Nat}{F1:Fp}{S:JW}{roots:List Nat}(hX:IB st F dp a ka kr sp F1 S roots)(hs:s<a.n): ∃v st',QP 207 [.ptr dp 0 0,iN s] st v st'∧v=.bool (a.ok s)∧Qt st st':=by
 have wf:=hX.wf;have hen:a.n=a.acc.length:=rfl;have hrl:=hX.len;have hsa:s<a.acc.length:=hs;refine Jy Tryz.func207 Tryz.ntmps207 fun T K=>?_;have M:=Mem.start hf;refine Qa 3 K M fun _ K=>?_;refine oQ K M (ak M.fresh (hX.q M.qt) hs) rfl rfl fun _ _ K M=>?_;refine Qa 4 K M fun _ K=>?_;refine pg K rfl rfl (Qi rfl (Qq (M.QX Q0 hX.row.QH) (Qb JJ rfl))) fun _ K=>?_;refine Qa 1 K M fun _ K=>?_;obtain⟨y14,hi14⟩:=YY a.acc s Qe;obtain⟨x14,m14,f14,q14,_,la14,lo14,lp14⟩:=(Jb.mem M hX.acc Q0).load (i:=s) (cs:=_) (aC hi14);refine pg K rfl rfl (Qv (j:=s) U8 (congrArg some q14) rfl (by rw[XK];omega)) fun _ K=>pg K rfl rfl (Qi rfl (lo14 _ 0 _ XW rfl)) fun _ K=>?_;refine Qa 2 K M ?_;exact⟨congrArg AV.bool (Au.fW hi14).symm,M.qt⟩

theorem YM{st:St}(hf:Qh st){F:Fp}{dp:Nat}{a:Au}(hD:JH st F dp a)(hs:s<a.n): ∃v st',QP 207 [.ptr dp 0 0,.int .i64 (s:Nat)] st v st'∧v=.bool (a.ok s)∧Qt st st':=by
 obtain⟨_,_,_,_,_,_,hX⟩:=hD.x;exact Dh hf hX hs

end
section
variable {F:Fp} {a:Au}

def SB(st st':St)(a:Au)(v:AV):Prop:= ∃(ka kn:AV) (vs:List AV) (A:QK) (F:Fp),v=.agg [.int .i64 (a.tr:Nat),ka,kn]∧Acc 0 1 A ka (bC a.acc)∧Zc st'.h.get F kn vs a.nx∧XP st st' F∧(A.map Prod.fst).Nodup∧ ∀c m l,(c,m,l)∈A→Qu st'.h.get c m l∧st.n≤c∧ ¬F c
theorem Ql.Fv{st0 st st':St}{X0:Fp}{M:QK}{Os:List Ob}(B:Ql st0 X0 st M Os)(q:Qt st st'){v:AV}(h:SB st st' a v): ∃ka kn vs A F,v=.agg [.int .i64 (a.tr:Nat),ka,kn]∧Acc 0 1 A ka (bC a.acc)∧Ql st0 X0 st' (M++(A++[])) (Ns F kn vs a.nx::Os):=by
 obtain⟨ka,kn,vs,A,F,h1,h2,h3,h4,h5,h6⟩:=h;have B1:=B.new (o:=Ns F kn vs a.nx) q h3 h4;have hlt: ∀c m l,(c,m,l)∈A→c<st'.n:=fun c m l hm=>(h6 c m l hm).1.lt q.fresh;refine⟨ka,kn,vs,A,F,h1,h2,B1.fresh,B1.le,fun c m l hm=>?_,?_,fun c m l hm=>?_,B1.obj,B1.hi,B1.dj,fun o ho c m l hm hc=>?_,B1.Jx⟩
 ·rw[List.append_nil]at hm;rcases List.mem_append.1 hm with hm|hm
  ·exact B1.row c m l hm
  ·exact(h6 c m l hm).1
 ·rw[List.append_nil,List.map_append];refine List.nodup_append.2 ⟨B.nodup,h5,fun x hx y hy e=>?_⟩;subst e;obtain⟨⟨c,m,l⟩,k1,rfl⟩:=List.mem_map.1 hx;obtain⟨⟨c',m',l'⟩,k2,k3⟩:=List.mem_map.1 hy;simp only at k3;subst k3;have:=(B.row _ m l k1).lt B.fresh;have:=(h6 _ m' l' k2).2.1;omega
 ·rw[List.append_nil]at hm;rcases List.mem_append.1 hm with hm|hm
  ·exact B1.lo c m l hm
  ·exact .inl (Nat.le_trans B.le (h6 c m l hm).2.1)
 ·rw[List.append_nil]at hm;rcases List.mem_append.1 hm with hm|hm
  ·exact B1.djM o ho c m l hm hc
  ·rcases List.mem_cons.1 ho with rfl|ho
   ·exact(h6 c m l hm).2.2 hc
   ·have:=(B.hi o ho c hc).1;have:=(h6 c m l hm).2.1;omega
theorem Ql.zn{st0 st:St}{M A:QK}{Os:List Ob}{ka kn:AV}{vs:List AV}(B:Ql st0 WM st (M++(A++[])) (Ns F kn vs a.nx::Os))(hA:Acc 0 1 A ka (bC a.acc)):SB st0 st a (.agg [.int .i64 (a.tr:Nat),ka,kn]):=by
 have hn:=B.nodup;rw[List.append_nil,List.map_append]at hn;refine⟨ka,kn,vs,A,F,rfl,hA,B.at_ (k:=0) rfl,B.xq (k:=0) rfl,(List.nodup_append.1 hn).2.1,fun c m l hm=>⟨B.row c m l (by simp[hm]),(B.lo c m l (by simp[hm])).resolve_right id,B.djM _ (List.mem_cons_self ..) c m l (by simp[hm])⟩⟩
section
variable {P:Program} {G:Env} {N:Nat} {h0:Hp} {n0:Nat} {X:List Nat} {st:St} {L A B:Ut} {T:Tr AV} {ops:List Oper} {K:List (Nat×AV)} {R:Tr AV→St→Prop} {d:Nat} {ty:TypeId} {pos:String} {af:Array Edge}
theorem za{sn:List St}{i:Nat}{rr:List (Nat×Nat)}{x y:Operand}{t e:TypeId}{c2 m2 k2:Nat}{ks v:AV}{vs:List AV}(ho:ops[i]? =some ⟨some d,.call {callee:=.builtin .append,args:= #[x,y],argTypes:= #[t,t]},ty,pos,af,none⟩)(hK:QG K T)(hM:Mem h0 n0 X st (L++(A++B)))(hA:YS A ks vs)(S:AK P t e 1)(hx:QE G K x=some ks)(hy:QE G K y=some (.sl c2 m2 0 1 1))(hk:(L++(A++B))[k2]? =some (c2,m2,[v]))(hb:vs.length+1≤1000000000)(hN:Nat.ble (d+1) N=true)
  (hn: ∀(ks':AV) A' T' st',QG ((d,ks')::K) T'→YS A' ks' (vs++[v])→(∀c m l,(c,m,l)∈A'→(∃m l,(c,m,l)∈A)∨st.n≤c)→Mem h0 n0 X st' (L++(A'++B))→WD P G N ops (rr.map (UK ops)) R T' st' (st'::sn)):WD P G N ops (((i,0)::rr).map (UK ops)) R T st sn:=by
 obtain⟨ks',A',st1,h1,h2,h3,h4⟩:=hM.wc hA S hk hb;exact OL ho hK (Z3 rfl hx hy h1) rfl (Nat.le_of_ble_eq_true hN) fun T' hT'=>hn ks' A' T' st1 hT' h2 h4 h3
end

theorem aj{st:St}(hf:Qh st){dp:Nat}{ka kr:AV}{sp:Nat}{F1:Fp}{S:JW}{roots:List Nat}(hX:IB st F dp a ka kr sp F1 S roots): ∃v st',QP 160 [.ptr dp 0 0] st v st'∧SB st st' a v∧Qt st st':=by
 have wf:=hX.wf;have hen:a.n=a.acc.length:=rfl;have hrl:=hX.len;have hmo:=wf.most;have hln:=wf.len;have htr:=wf.tr;have hp64:=JE wf.tr;have B:=Ql.start hf;refine Jy Tryz.func160 Tryz.ntmps160 fun T K=>?_;have M:=B.mem;refine au 2 K M ?_;intro c2 _ _ K _ M;refine p1 K (U2 J1 rfl rfl) fun _ K=>?_;refine Qa 1 K M fun _ K=>?_;refine QU (l:=[(0,0),(1,0),(2,0),(3,0),(4,0),(5,1),(6,0),(7,0),(8,0),(9,0)]) (by kernel_rfl) ?_;have Mq:=M;refine q1 rfl K (Q8 rfl) fun _ K=>?_;obtain⟨v10,st10,ev10,rfl,q10⟩:=Ly M.fresh (hX.q (B.step M).qt);refine qA rfl K (Qg rfl ev10) fun _ K=>?_;replace M:=M.quiet q10;have Mp:=Mq;have Mq:=M;refine Yq 3 K M fun _ K=>?_;refine JL rfl K rfl (Qq ((B.step M).ZP hf hX.row.QH id) (Qb JJ rfl)) (Qq ((B.step Mp).ZP hf hX.row.QH id) (Qb JJ rfl)) (Ub (ZV (hX.acc.len.trans (congrArg some (XK _))))) rfl QA fun _ K=>?_;obtain⟨v15,st15,ev15,ks15,rfl,nr15,q15⟩:=O5 M.fresh ((B.step M).Pk hf hX.acc) Qe;refine qA rfl K (Qg rfl ev15) fun _ K=>?_;obtain⟨A15,hA15,M⟩:=M.YG q15 nr15;replace hA15:=hA15.z0;simp only[AH]at M;have Mp:=Mq;have Mq:=M;refine q1 rfl K (Fj HT rfl ((Oq rfl rfl rfl).trans ((Yu rfl hA15.cell rfl).trans rfl))) fun _ K=>?_;refine By rfl K M W9 QA fun c3 _ _ K M=>?_;refine Kf (k:=0) rfl K M rfl rfl rfl ZK rfl (Qc rfl (Qc hA15.cell (Qc rfl QY))) rfl fun _ M=>?_;have Mp:=Mq;have Mq:=M;refine Ji ?_;show W _ _ _ _ _ _ _;refine ZG<|ZG ?_;replace B:=(B.step M).KO;have M:=B.mem;refine Qa 3 K M fun _ K=>?_;refine p1 K (Qi rfl (Qq ((B.step M).ZP hf hX.row.QH id) (Qb Jd rfl))) fun _ K=>p1 K (Q7 Jr rfl rfl (hX.rt.len.trans (congrArg some (by rw[Qz,List.length_map])))) fun _ K=>?_;refine Qa 1 K M fun _ K=>?_;refine Jc (fun mm1 T st9=> ∃(i:Nat) (vs:List AV) (kn:AV) (A:QK) (F:Fp),mm1=roots.length-i∧QG [(0,.ptr dp 0 0),(2,.ptr c2 0 0),(3,.ptr c3 0 0),(20,kr),(21,iZ (roots.length:Nat)),(22,iN i)] T∧Ql st WM st9 ((c3,0,[iZ (a.tr:Nat),v15,kn])::(c2,0,[iZ 0,.nils,.nils])::(A15++(A++[]))) [SH F vs (a.nx.take i)]∧YS A kn vs∧i≤roots.length) (fun mm1 T st9 hI=>?_) _ _ _ ⟨0,[],.nils,[],_,rfl,(K.sub rfl),(B.step M).less (.refl _),.none,(Nat.zero_le _)⟩;obtain⟨i,vs,kn,A,F,rfl,K,B,hA4,hi⟩:=hI;have M:=B.mem;refine Qa 1 K M fun _ K=>?_;refine UA K rfl (fun h23=>?_) fun h23=>?_
 ·refine Qa 0 K M fun _ K=>?_;obtain⟨y24,hi24⟩:=YY roots i Qe;refine oI ((B.step M).Pk hf hX.rt) (Ka hi24) K QF Qr rfl rfl rfl fun _ _ _ _ K=>?_;refine Qa 1 K M fun _ K=>?_;refine QU (l:=[(2,0),(3,0),(4,0),(5,0),(6,0),(7,0),(0,0),(1,1),(8,0),(9,0),(10,0),(11,0)]) (by kernel_rfl) ?_;have Mq:=M;refine Yq 3 K M fun _ K=>?_;refine q1 rfl K (Qi rfl (Qq ((B.step M).ZP hf hX.row.QH id) (Qb Je rfl))) fun _ K=>q1 rfl K (Q8 rfl) fun _ K=>?_;obtain⟨hr1,hr2⟩:=hX.rts _ _ hi24;have hXi:=(hX.q (B.step M).qt).i;obtain⟨v33,st33,ev33,ks33,rfl,nr33,q33⟩:=va M.fresh hXi wf.tr hX.wfS hr1;refine qA rfl K (Qg rfl ev33) fun _ K=>?_;obtain⟨A33,hA33,M⟩:=M.YG q33 nr33;replace hA33:=hA33.z0;simp only[AH]at M;have Mp:=Mq;have Mq:=M;refine Yq 1 K M fun _ K=>?_;refine JL rfl K rfl (M.load (k:=0) rfl (Qb QO rfl)) (Mp.load (k:=0) rfl (Qb QO rfl)) (Ub (ZV hA4.len)) rfl QA fun _ K=>?_;refine HM rfl K M JC Zd rfl ((Yu rfl hA33.cell rfl).trans rfl) (Qc hA33.cell QY) rfl rfl fun c34 _ _ K M=>?_;refine za (k2:=0) (L:=((c34,0,[v33])::(c3,0,[iZ (a.tr:Nat),v15,kn])::(c2,0,[iZ 0,.nils,.nils])::(A15++[]))) (B:=(A33++[])) rfl K (Mem.cast M Zr) hA4 JC rfl rfl rfl (by have:=((B.step M).at_ (k:=0) rfl).ln;rw[List.length_take]at this;omega) rfl fun ks35 A35 _ _ K hA35 _ M=>?_;simp only[AH]at M;refine Yq 1 K M fun _ K=>?_;refine Xw (k:=1) rfl K M rfl rfl rfl Z1 (hA35.cell) rfl fun _ M=>?_;have Mp:=Mq;have Mq:=M;refine Ji ?_;show W _ _ _ _ _ _ _;refine Qa 2 K M fun _ K=>?_;replace B:=B.step M;obtain⟨Fr,B⟩:=Ql.LQ (L:=((c34,0,[v33])::(c3,0,[iZ (a.tr:Nat),v15,ks35])::(c2,0,[iZ 0,.nils,.nils])::(A15++(A35++[])))) (B:=[]) (B.cast Zr) hA33 (wf.PB _ (List.mem_of_getElem? hr2));replace B:=B.cast (M':=((c34,0,[v33])::(c3,0,[iZ (a.tr:Nat),v15,ks35])::(c2,0,[iZ 0,.nils,.nils])::(A15++(A35++[])))) Zr
  have htk:a.nx.take i++[Wg a.tr S y24]=a.nx.take (i+1):=by rw[List.take_add_one,hr2];rfl
  rw[htk]at B;have M:=B.mem;exact⟨_,Qe,i+1,_,ks35,A35,_,rfl,(K.sub rfl),(B.step M).less (.cons _ (.refl _)),hA35,Qe⟩
 refine QT ?_;show W _ _ _ _ _ _ _;refine Qa 1 K M fun _ K=>?_;refine Yf (k:=1) K M rfl rfl rfl ZK rfl (Qc rfl (Qc hA15.cell (Qc hA4.cell QY))) rfl fun _ M=>?_;refine Qa 0 K M ?_;refine⟨?_,(B.step M).qt⟩;replace B:=B.step M;have hti:a.nx.take i=a.nx:=List.take_of_length_le Qe;rw[hti]at B;obtain⟨F',B'⟩:=Ql.MP (L:=((c3,0,[iZ (a.tr:Nat),v15,kn])::(c2,0,[iZ (a.tr:Nat),v15,kn])::A15)) (B:=[]) (B.cast Zr) hA4;exact Ql.zn (M:=[(c3,0,[iZ (a.tr:Nat),v15,kn]),(c2,0,[iZ (a.tr:Nat),v15,kn])]) (A:=A15) (B'.cast Q0) hA15

theorem FJ{st:St}(hf:Qh st){dp:Nat}(hD:JH st F dp a): ∃v st',QP 160 [.ptr dp 0 0] st v st'∧SB st st' a v∧Qt st st':=by
 obtain⟨_,_,_,_,_,_,hX⟩:=hD.x;exact aj hf hX
end
section

theorem Hm{α:Type}(f:α→AV){L:List α}{j:Nat}{x:α}(h:L[j]? =some x):nth (L.map f) (0+j *1)=some (f x):=by
 rw[JO,Nat.zero_add,Nat.mul_one,List.getElem?_map,h];rfl
theorem WL{α:Type}(f:α→AV)(w:α): ∀{L:List α} {j:Nat},j<L.length→Yw [f w] (0+j *1) (L.map f)=some ((L.set j w).map f):=by
 intro L j h;rw[Nat.zero_add,Nat.mul_one]
 induction L generalizing j with
 |nil=>simp at h
 |cons a L ih=>
  cases j with
  |zero=>rfl
  |succ j=>
   rw[List.map_cons,KI,ih (by simpa using h)];rfl
theorem Hx{α:Type}(f:α→AV)(L:List α):(L.map fun x=>[f x]).flatten=L.map f:=by
 induction L with
 |nil=>rfl
 |cons a L ih=>rw[List.map_cons,List.flatten_cons,ih];rfl
theorem Acc.vK{α:Type}{f:α→AV}{n0:Nat}{A:QK}{ks:AV}{L:List α}(hA:Acc n0 1 A ks (L.map fun x=>[f x]))(hL:0<L.length): ∃c m,ks=.sl c m 0 L.length 1∧A=[(c,m,L.map f)]:=by
 generalize hg:(L.map fun x=>[f x])=ls at hA
 cases hA with
 |none=>have h0:=congrArg List.length hg;rw[List.length_map,List.length_nil]at h0;omega
 |own h1 h2 h3=>
  rename_i c m;subst hg;exact⟨c,m,by rw[List.length_map],by rw[Hx]⟩
theorem Acc.ofM{α:Type}(f:α→AV){c m:Nat}{L:List α}(hb:L.length≤1000000000):Acc 0 1 [(c,m,L.map f)] (.sl c m 0 L.length 1) (L.map fun x=>[f x]):=by
 have:=Acc.own (n0:=0) (z:=1) (c:=c) (m:=m) (ls:=L.map fun x=>[f x]) (Nat.zero_le _) (fun cs hc=>by obtain⟨x,_,rfl⟩:=List.mem_map.1 hc;rfl) (by rw[List.length_map];exact hb);rw[Hx,List.length_map]at this;exact this
theorem Qu.kj{α:Type}{f:α→AV}{h:Hp}{c m n:Nat}{L:List α}(r:Qu h c m (L.map f))(hn:L.length=n)(hb:L.length≤1000000000):Jb h [] 1 (L.map fun x=>[f x]) (.sl c m 0 n 1):=by
 subst hn;have:=Jb.own (X:=[]) (z:=1) (ls:=L.map fun x=>[f x]) (c:=c) (m:=m) (by rw[Hx];exact r) (fun cs hc=>by obtain⟨x,_,rfl⟩:=List.mem_map.1 hc;rfl) Q0 (by rw[List.length_map];omega);rw[List.length_map]at this;exact this
section
variable {P:Program} {G:Env} {N:Nat} {h0:Hp} {n0:Nat} {X:List Nat} {st:St} {M:QK} {T:Tr AV} {ops rest:List Oper} {K:List (Nat×AV)} {R:Tr AV→St→Prop} {d:Nat} {t ty:TypeId} {pos:String} {af:Array Edge}
theorem BY{α:Type}(z:α): ∀n,Xn n [z]=List.replicate n z
 |0=>rfl
 |n+1=>by rw[List.replicate_succ,←BY z n];show UY [z] (Xn n [z])=_;rw[J9];rfl
theorem Kb{α:Type}(f:α→AV)(z:α){x:Operand}{n:Nat}{e:TypeId}(hK:QG K T)(hM:Mem h0 n0 X st M)(S:AK P t e 1)(hz:zeroOf P e=some [f z])(hx:QE G K x=some (.int .i64 (n:Nat)))(hb:n≤1000000000)(hN:Nat.ble (d+1) N=true)
  (hn: ∀(c:Nat) T' st',QG ((d,.sl c 0 0 n 1)::K) T'→Mem h0 n0 X st' ((c,0,(List.replicate n z).map f)::M)→WR P G N ops rest R T' st'):WR P G N ops (⟨some d,.makeSlice t x x,ty,pos,af,none⟩::rest) R T st:=by
 refine Wv (v:=.sl st.n 0 0 n 1) (st1:=⟨st.n+1,st.h.set st.n (.row false [(((List.replicate n z).map f).length,0,some ((List.replicate n z).map f))])⟩) hK (.of fun T hT c d ty pos af g=>?_) (Nat.le_of_ble_eq_true hN) fun T' hT'=>hn st.n T' _ hT' (hM.alloc _);show(ob (QI G T x) fun a=>ob (QI G T x) fun b=>XC P t a b st)=_;rw[hT.QI hx,Qf,Qf];unfold XC;have h1:B7 ((n:Nat):Int)=some n:=rfl;simp only[S.u,h1,Qf,S.s,Q6,hz,S.c];rw[show Nat.beq (UM [f z]) 1=true from rfl,show Nat.ble 1 (UM [f z])=true from rfl,Nat.ble_eq_true_of_le (Nat.le_refl n),Nat.ble_eq_true_of_le hb,Nat.ble_eq_true_of_le S.b];simp only[Q6,Um,QC,BY,List.map_replicate]
end
end
end Go.Proofs.YtildagdnomiahaaGreatDoor
