/-
  The next set, a set's number: the program's.
-/
import Derived.Test.YtiknomepbklibaaGreatDoorFzPja
set_option maxHeartbeats 8000000
set_option maxRecDepth 100000
set_option linter.unnecessarySimpa false
set_option linter.unusedSimpArgs false
set_option linter.unusedVariables false
section
namespace Go.Proofs.YtiknomepbklibaaGreatDoor
open Go Go.RowKit
variable {F:Fp} {L:List (List Int)} {cp l mp xp:Nat} {st:St}

def Hn(F:Fp)(cp:Nat)(L:List (List Int)):Ob:=⟨F,fun h=>Z7 h F cp L,fun _ _ e H=>H.frame e⟩
structure NL(h:Hp)(F:Fp)(xp cp mp:Nat)(L:List (List Int))(l:Nat):Prop where
 pool:Z7 h F cp L
 met:Q0 h mp 0 [.int .i64 (l:Nat),.bool false]
 row:Q0 h xp 0 [.ptr cp 0 0,.ptr mp 0 0]
 d1: ¬F mp
 d2: ¬F xp
 d3:xp≠mp
def BW(F:Fp)(xp mp:Nat):Fp:=fun c=>F c∨c=mp∨c=xp
theorem NL.frame{h h':Hp}{F:Fp}{xp cp mp:Nat}{L:List (List Int)}{l:Nat}(e: ∀c,BW F xp mp c→h' c=h c)(H:NL h F xp cp mp L l):NL h' F xp cp mp L l:=
 ⟨H.pool.frame fun c hc=>e c (.inl hc),H.met.frame (e mp (.inr (.inl rfl))),H.row.frame (e xp (.inr (.inr rfl))),H.d1,H.d2,H.d3⟩
def vJ(F:Fp)(xp cp mp:Nat)(L:List (List Int))(l:Nat):Ob:=⟨BW F xp mp,fun h=>NL h F xp cp mp L l,fun _ _ e H=>H.frame e⟩
theorem Qk.yN(hf:Qj st)(H:NL st.h.get F xp cp mp L l)(hi: ∀c,BW F xp mp c→c<st.n):Qk st (BW F xp mp) st [(xp,0,[.ptr cp 0 0,.ptr mp 0 0])] [Hn F cp L,Yd mp l false]:=by
 refine⟨hf,Nat.le_refl _,fun c m x h=>?_,by simp,fun c m x h=>?_,fun o h=>?_,fun o h c hc=>?_,?_,fun o h c m x hm hc=>?_,fun _ _ _=>rfl⟩
 ·simp at h;obtain⟨rfl,rfl,rfl⟩:=h;exact H.row
 ·simp at h;obtain⟨rfl,rfl,rfl⟩:=h;exact .inr (.inr (.inr rfl))
 ·simp at h;rcases h with rfl|rfl
  ·exact H.pool
  ·exact H.met
 ·simp at h;rcases h with rfl|rfl
  ·exact⟨hi c (.inl hc),.inr (.inl hc)⟩
  ·exact⟨hi c (.inr (.inl hc)),.inr (.inr (.inl hc))⟩
 ·refine List.pairwise_cons.2 ⟨fun o h c h1 h2=>?_,List.pairwise_singleton _ _⟩;rw[List.mem_singleton.1 h]at h2;exact H.d1 ((show c=mp from h2)▸h1)
 ·simp at hm;obtain⟨rfl,rfl,rfl⟩:=hm
  simp at h;rcases h with rfl|rfl
  ·exact H.d2 hc
  ·exact H.d3 hc
theorem Qk.uy{st':St}{F':Fp}(B:Qk st (BW F xp mp) st' [(xp,0,[.ptr cp 0 0,.ptr mp 0 0])] [Hn F' cp L,Yd mp l false]): ∃F',NL st'.h.get F' xp cp mp L l∧WK st st' (BW F xp mp) (BW F' xp mp)∧UH (BW F xp mp) st st':=by
 have hp:=(List.pairwise_cons.1 B.dj).1 (Yd mp l false) QA;refine⟨F',⟨B.at_ (k:=0) rfl,B.at_ (k:=1) rfl,B.row _ _ _ (List.mem_singleton.2 rfl),fun h=>hp mp h rfl,B.djM (Hn F' cp L) QA xp 0 _ (List.mem_singleton.2 rfl),fun e=>B.djM (Yd mp l false) QA xp 0 _ (List.mem_singleton.2 rfl) e⟩,fun c hc=>?_,B.JM⟩;rcases hc with hc|hc|hc
 ·exact⟨(B.KT (k:=0) rfl c hc).symm,B.Yu (k:=0) rfl c hc⟩
 ·exact⟨(B.KT (k:=1) rfl c hc).symm,B.Yu (k:=1) rfl c hc⟩
 ·subst hc;exact⟨.inl (.inr (.inr rfl)),(B.row c 0 _ (List.mem_singleton.2 rfl)).lt B.fresh⟩
theorem LS(hf:Qj st)(hr:Q0 st.h.get mp 0 [.int .i64 (l:Nat),.bool false])(hl:l≤9223372036854775807)(n:Nat)(hn:n≤l): ∃v st',Ev Tryz.prog Q4 62 [.ptr mp 0 0,.int .i64 (n:Nat)] st v st'∧v=.bool true∧(Yd mp (l-n) false).H st'.h.get∧UH (fun c=>c=mp) st st':=by
 obtain⟨v,st',h1,h2,h3,h4⟩:=OX hf hr hl n Qe;exact⟨v,st',h1,by rw[h2,Sz hn],by rw[Hv hn]at h3;exact h3,h4⟩
theorem qQ(hf:Qj st){a:Au}(wf:Zr a){kn:AV}{ls:List (List AV)}(hN:Lb st.h.get a.nx kn ls){q:List Int}{kq:AV}(hq:Ji st.h.get [] 1 (zC q) kq)(hqs: ∀z∈q,0≤z∧z<((a.n:Nat):Int))(hql:q.length≤400){c k:Nat}(hk:k<a.tr)(hc:c<2^(a.tr-1)): ∃v st',Ev Tryz.prog Q4 41 [kn,kq,iN c,iN k] st v st'∧ ∃kr A,v=kr∧Ak st.n A kr (Uo a k q c)∧(∀c' m l,(c',m,l)∈A→Q0 st'.h.get c' m l)∧Qt st st':=by
 have htr:=wf.tr;have hlen:=wf.len;have hc62:c≤64:=by have:=JE (T:=a.tr-1) Qe;omega
 have hu0:=L4 hk hc (u:=0) QE;have hu1:=L4 hk hc (u:=1) QE;have hp6:=JE htr;have hnc:=hN.r.cell;have hqc:=hq.cell;have hlo:=Io k c;have hpk:=qd wf hk;have hcm:c % 2^k≤c:=Nat.mod_le _ _
 have hh0:c/2^k *2^(k+1)≤Zn k c 0:=by unfold Zn;omega
 have hh1:c/2^k *2^(k+1)≤9223372036854775807:=by omega
 refine JF Tryz.func41 Tryz.ntmps41 fun T K=>?_;have M:=Mem.start hf;refine Qc 3 K M ?_;intro _ K;refine p1 K (Y4 (n:=k) rfl rfl Qe) fun _ K=>?_;refine Qc 1 K M ?_;intro _ K;refine p1 K (Sr (k:=k) (c:=c) rfl rfl Qe Qe) fun _ K=>?_;refine Qc 5 K M ?_;intro _ K;refine p1 K (qZ (k:=k) (c:=c) rfl rfl Qe) fun _ K=>p1 K (LC (RW k c) rfl rfl Qe hh1) fun _ K=>?_;refine Qc 3 K M ?_;intro _ K;refine p1 K (Q8 Jp rfl rfl (hq.len.trans (congrArg some (Qn _)))) fun _ K=>?_;refine Qc 1 K M ?_;intro _ K;refine Jc (fun mm1 T st9=> ∃(i:Nat) (ko:AV) (A:U9),mm1=q.length-i∧QY [(0,kn),(3,iN k),(8,.nils),(10,iZ (Zn k c 0:Nat)),(11,ko),(25,kq),(26,iZ (q.length:Nat)),(27,iN i)] T∧Mem st.h.get st.n [] st9 (A++[])∧i≤q.length∧Acc st.n 1 A ko (zC (W2 a k c (q.take i)))) (fun mm1 T st9 hI=>?_) _ _ _ ⟨0,.nils,[],rfl,(K.sub rfl),M.less (.refl _),(Nat.zero_le _),(by rw[List.take_zero];exact .none)⟩;obtain⟨i,ko,A,rfl,K,M,hiq,hA⟩:=hI;refine Qc 1 K M ?_;intro _ K;refine JP K rfl (fun h28=>?_) fun h28=>?_
 ·refine Qc 0 K M ?_;intro _ K;obtain⟨y29,hi29⟩:=U8 q i Qe;have hb29:=hqs y29 (List.mem_of_getElem? hi29);obtain⟨x29,m29,f29,q29,_,la29,lo29,lp29⟩:=(Ji.mem M hq QA).load (i:=i) (cs:=_) (Jr hi29);refine p1 K (Qa (j:=i) Qw (congrArg some q29) rfl (by rw[Qn];omega)) fun _ K=>p1 K (Qd rfl (lo29 _ 0 _ Qr rfl)) fun _ K=>?_;refine Qc 1 K M ?_;intro _ K;refine QD (l:=[(0,0),(1,0),(2,0),(3,0),(4,0),(5,0),(6,0),(7,0),(8,0),(9,0),(10,0),(11,0),(12,0),(13,0),(14,0),(15,0),(16,0),(17,0),(18,0),(19,0),(20,0)]) (by kernel_rfl) ?_;refine Jf 3 K M ?_;intro _ K;obtain⟨s34,hi34⟩:=U8 a.nx ((y29).toNat) Qe;obtain⟨_,hc34,w34,rfl,hr34,hz34⟩:=hN.at_ _ _ hi34;have hw34:=wf.row s34 (List.mem_of_getElem? hi34);have hl34:s34.length=2^a.tr:=hw34.1;obtain⟨x34,m34,f34,q34,_,la34,lo34,lp34⟩:=(Ji.mem M hN.r QA).load (i:=(y29).toNat) (cs:=_) hc34;refine q1 rfl K (Qa (j:=(y29).toNat) QV (congrArg some q34) (congrArg (fun z=>some (iZ z)) (by omega:_=(((y29).toNat:Nat):Int))) (by rw[hN.ln];omega)) fun _ K=>q1 rfl K (Qd rfl (lo34 _ 0 _ QZ rfl)) fun _ K=>q1 rfl K (Qg rfl) fun _ K=>?_;obtain⟨y37,hi37⟩:=U8 s34 ((Zn k c 0)) Qe;have hb37:=hw34.2 y37 (List.mem_of_getElem? hi37);obtain⟨x37,m37,f37,q37,_,la37,lo37,lp37⟩:=(Ji.mem M hr34 QA).load (i:=(Zn k c 0)) (cs:=_) (Jr hi37);refine q1 rfl K (Qa (j:=(Zn k c 0)) Qw (congrArg some q37) rfl (by rw[Qn];omega)) fun _ K=>q1 rfl K (Qd rfl (lo37 _ 0 _ Qr rfl)) fun _ K=>?_;refine Jf 2 K M ?_;intro _ K;obtain⟨_,hc41,w41,rfl,hr41,hz41⟩:=hN.at_ _ _ hi34;obtain⟨x41,m41,f41,q41,_,la41,lo41,lp41⟩:=(Ji.mem M hN.r QA).load (i:=(y29).toNat) (cs:=_) hc41;refine q1 rfl K (Qa (j:=(y29).toNat) QV (congrArg some q41) (congrArg (fun z=>some (iZ z)) (by omega:_=(((y29).toNat:Nat):Int))) (by rw[hN.ln];omega)) fun _ K=>q1 rfl K (Qd rfl (lo41 _ 0 _ QZ rfl)) fun _ K=>?_;refine Jf 2 K M ?_;intro _ K;refine q1 rfl K (Y4 (n:=k) rfl rfl Qe) fun _ K=>q1 rfl K (LC (yZ k c) rfl rfl Qe Qe) fun _ K=>?_;obtain⟨y47,hi47⟩:=U8 s34 ((Zn k c 1)) Qe;have hb47:=hw34.2 y47 (List.mem_of_getElem? hi47);obtain⟨x47,m47,f47,q47,_,la47,lo47,lp47⟩:=(Ji.mem M hr41 QA).load (i:=(Zn k c 1)) (cs:=_) (Jr hi47);refine q1 rfl K (Qa (j:=(Zn k c 1)) Qw (congrArg some q47) rfl (by rw[Qn];omega)) fun _ K=>q1 rfl K (Qd rfl (lo47 _ 0 _ Qr rfl)) fun _ K=>?_;refine XR rfl K M QM Vn rfl rfl rfl rfl rfl fun c49 _ _ K M=>?_;refine A3 (L:=[(c49,0,[iZ y37,iZ y47])]) (A:=A) (B:=[]) (ls2:=[[iZ y37],[iZ y47]]) (Y:=[]) rfl K M hA QM rfl rfl (Ji.own (ls:=[[iZ y37],[iZ y47]]) (Mem.UX (k:=0) M rfl) QA QA QA) QA (by simp only[Qn,Im,List.length_take,List.length_cons,List.length_nil];omega) rfl fun ks50 A50 _ _ K hA50 M=>?_;refine q1 rfl K (U5 rfl) fun _ K=>QG ?_;show W _ _ _ _ _ _ _;refine Qc 2 K M ?_;intro _ K;exact⟨_,Qe,i+1,ks50,A50,rfl,(K.sub rfl),M.less (.cons _ (.refl _)),Qe,(by rw[LN hi29,JH hi34 hi37,JH hi34 hi47,JV,Int.toNat_of_nonneg hb37.1,Int.toNat_of_nonneg hb47.1];exact hA50)⟩
 refine QT ?_;show W _ _ _ _ _ _ _;refine Qc 1 K M ?_;intro _ K;rw[List.take_of_length_le Qe]at hA;have hln:=Im a k c q;obtain⟨v53,st53,A12,ev53,rfl,M7,hA12⟩:=OI (L:=[]) (A:=A) (B:=[]) M hA Qe;refine p1 K (Qh rfl ev53) fun _ K=>?_;replace M:=M7;refine Qc 1 K M ?_;intro _ K;obtain⟨v55,st55,A14,ev55,hA14,M9⟩:=Gr (L:=[]) (A:=A12) (B:=[]) M hA12 (by rw[YV];omega);rw[KK]at hA14;refine p1 K (Qh rfl ev55) fun _ K=>?_;replace M:=M9;refine Qc 1 K M ?_;refine⟨_,A14,rfl,hA14,fun c' m l h=>M.row c' m l (by simp[h]),M.qt⟩

theorem qR(hf:Qj st)(H:NL st.h.get F xp cp mp L l)(hi: ∀c,BW F xp mp c→c<st.n)(hL:L.length≤400)(hl1:1≤l)(hl:l≤9223372036854775807){q:List Int}{kq:AV}(hq:Ji st.h.get [] 1 (zC q) kq)(hX: ∀c m o n y,kq=.sl c m o n y→ ¬BW F xp mp c)(hz:Vh q)(hql:q.length≤100000)(hs:VP q): ∃v st',Ev Tryz.prog Q4 37 [.ptr xp 0 0,kq] st v st'∧v=.tup [iZ (PM L q:Nat),.bool (decide (((AP L q).length:Int)≤400))]∧ ∃F',NL st'.h.get F' xp cp mp (AP L q) (l-((AP L q).length-L.length))∧WK st st' (BW F xp mp) (BW F' xp mp)∧UH (BW F xp mp) st st':=by
 have B:=Qk.yN hf H hi;have hof:=OQ (L:=L) hs;have hqc:=hq.cell;refine JF Tryz.func37 Tryz.ntmps37 fun T K=>?_;have M:=B.mem;refine Qc 5 K M ?_;intro _ K;refine p1 K (Qd rfl (M.load (k:=0) rfl (Qf YS rfl))) fun _ K=>?_;replace B:=B.step M;obtain⟨v12,st12,ev12,rfl,q12⟩:=KV (L:=L) B.fresh (B.at_ (k:=0) rfl);refine p1 K (Qh rfl ev12) fun _ K=>?_;replace B:=B.quiet q12;have M:=B.mem;refine Qc 4 K M ?_;intro _ K;refine p1 K (Qd rfl (M.load (k:=0) rfl (Qf YS rfl))) fun _ K=>?_;refine Qc 1 K M ?_;intro _ K;replace B:=B.step M;obtain⟨v18,st18,ev18,rfl,hP2,Q2⟩:=vu B.fresh (B.at_ (k:=0) rfl) (B.Yu (k:=0) rfl) Qe (B.rd hf hq hX) hz hql;refine p1 K (Qh rfl ev18) fun _ K=>?_;generalize hF2:(fun c=>F c∨_)=F2 at hP2;replace B:=B.call (k:=0) (o':=Hn F2 cp (AP L q)) rfl Q2 hP2 (fun c hc=>by rw[show(Hn F2 cp (AP L q)).F c=F2 c from rfl,←hF2]at hc;rcases hc with hc|hc;exact⟨.inl hc,Nat.lt_of_lt_of_le (B.Yu (k:=0) rfl c hc) Q2.le⟩;exact⟨.inr hc.1,hc.2⟩);have M:=B.mem;refine Qc 4 K M ?_;intro _ K;refine JP K rfl (fun h21=>?_) fun h21=>?_
 ·refine Qc 3 K M ?_;replace B:=B.step M;rcases hof with⟨a1,a2,a3⟩|⟨a1,a2,a3⟩
  ·have e8:(AP L q).length=L.length:=by rw[a2]
   refine⟨by rw[decide_eq_true (show((AP L q).length:Int)≤400 by omega)],?_⟩;rw[show l-((AP L q).length-L.length)=l by omega];exact B.uy
  ·exfalso;omega
 refine Qc 5 K M ?_;intro _ K;replace B:=B.step M;obtain⟨v28,st28,ev28,rfl,hm3,Q3⟩:=LS B.fresh (B.at_ (k:=1) rfl) hl 1 Qe;refine p1 K (Qh rfl ev28) fun _ K=>?_;replace B:=B.call (k:=1) (o':=Yd mp (l-1) false) rfl Q3 hm3 (fun c hc=>⟨.inl hc,Nat.lt_of_lt_of_le (B.Yu (k:=1) rfl c hc) Q3.le⟩);have M:=B.mem;refine Qc 4 K M ?_;intro _ K;refine pg K rfl rfl (Qd rfl (M.load (k:=0) rfl (Qf YS rfl))) fun _ K=>?_;replace B:=B.step M;obtain⟨v34,st34,ev34,rfl,q34⟩:=KV (L:=(AP L q)) B.fresh (B.at_ (k:=0) rfl);refine pg K rfl rfl (Qh rfl ev34) fun _ K=>?_;replace B:=B.quiet q34;have M:=B.mem;refine Qc 4 K M ?_;replace B:=B.step M;rcases hof with⟨a1,a2,a3⟩|⟨a1,a2,a3⟩
 ·exfalso;omega
 ·have e8:(AP L q).length=L.length+1:=by rw[a2,List.length_append];rfl
  refine⟨rfl,?_⟩;rw[show l-((AP L q).length-L.length)=l-1 by omega];exact B.uy
end Go.Proofs.YtiknomepbklibaaGreatDoor
end
section
namespace Go.Proofs.YtiknomepbklibaaGreatDoor
open Go Go.RowKit
variable {a:Au} {dp:Nat}

theorem UY.NP{st st':St}{F X:Fp}(hD:UY st F dp a)(Q:UH X st st')(hd: ∀c,F c→ ¬X c):UY st' F dp a:=⟨hD.at_.frame fun c hc=>Q.J6 c (hD.hi c hc) (hd c hc),fun c hc=>Nat.lt_of_lt_of_le (hD.hi c hc) Q.le⟩
section
variable {st0 st st':St} {X0 F:Fp} {M A:QU} {Os:List Ob} {o:Ob} {xp cp mp l:Nat} {L:List (List Int)}
theorem Qk.x7(B:Qk st0 X0 st M Os){k:Nat}(hk:Os[k]? =some (vJ F xp cp mp L l)):NL st.h.get F xp cp mp L l:=B.at_ hk
theorem Qk.eS(B:Qk st0 X0 st ((xp,0,[.ptr cp 0 0,.ptr mp 0 0])::M) (Hn F cp L::o::Yd mp l false::Os)):Qk st0 X0 st M (vJ F xp cp mp L l::o::Os):=by
 have d1:=(List.pairwise_cons.1 B.dj).1 (Yd mp l false) QA;have d2:=B.djM (Hn F cp L) QA xp 0 _ (List.mem_cons_self ..);have d3:=B.djM (Yd mp l false) QA xp 0 _ (List.mem_cons_self ..);have B1:=B.OO (Os':=Hn F cp L::Yd mp l false::o::Os) (.cons _ (.swap ..));have B2:=Qk.freeze (R:=[(xp,0,[.ptr cp 0 0,.ptr mp 0 0])]) (o:=Xc [(xp,0,[.ptr cp 0 0,.ptr mp 0 0])]) (M:=M) B1 (fun c m x h=>B.row c m x (by rw[List.mem_singleton.1 h];exact List.mem_cons_self ..)) (fun c hc=>hc)
 have B3:=B2.join (o:=⟨fun c=>c=xp∨F c,fun h=>Q0 h xp 0 [.ptr cp 0 0,.ptr mp 0 0]∧Z7 h F cp L,fun h h' e H=>⟨H.1.frame (e xp (.inl rfl)),H.2.frame fun c hc=>e c (.inr hc)⟩⟩) (fun h1 h2=>⟨h1 xp 0 _ (List.mem_singleton.2 rfl),h2⟩) (fun c hc=>by
  rcases hc with hc|hc
  ·exact .inl ⟨0,_,by rw[hc];exact List.mem_singleton.2 rfl⟩
  ·exact .inr hc)
 refine B3.join (fun h1 h2=>⟨h1.2,h2,h1.1,fun h=>d1 mp h rfl,d2,fun e=>d3 e⟩) (fun c hc=>?_);rcases hc with hc|hc|hc
 ·exact .inl (.inr hc)
 ·exact .inr hc
 ·exact .inl (.inl hc)
theorem Qk.uE(B:Qk st0 X0 st M Os)(q:Qt st st')(hA: ∀c m l,(c,m,l)∈A→Q0 st'.h.get c m l∧st.n≤c)(hn:(A.map Prod.fst).Nodup):Qk st0 X0 st' (M++(A++[])) Os:=by
 have B1:=B.quiet q;refine⟨B1.fresh,B1.le,fun c m l hm=>?_,?_,fun c m l hm=>?_,B1.obj,B1.hi,B1.dj,fun o ho c m l hm hc=>?_,B1.J6⟩
 ·rw[List.append_nil]at hm;rcases List.mem_append.1 hm with hm|hm
  ·exact B1.row c m l hm
  ·exact(hA c m l hm).1
 ·rw[List.append_nil,List.map_append];refine List.nodup_append.2 ⟨B.nodup,hn,fun x hx y hy e=>?_⟩;subst e;obtain⟨⟨c,m,l⟩,k1,rfl⟩:=List.mem_map.1 hx;obtain⟨⟨c',m',l'⟩,k2,k3⟩:=List.mem_map.1 hy;simp only at k3;subst k3;have:=(B.row _ m l k1).lt B.fresh;have:=(hA _ m' l' k2).2;omega
 ·rw[List.append_nil]at hm;rcases List.mem_append.1 hm with hm|hm
  ·exact B1.lo c m l hm
  ·exact .inl (Nat.le_trans B.le (hA c m l hm).2)
 ·rw[List.append_nil]at hm;rcases List.mem_append.1 hm with hm|hm
  ·exact B1.djM o ho c m l hm hc
  ·have:=(B.hi o ho c hc).1;have:=(hA c m l hm).2;omega
end
theorem Ak.zL{n0:Nat}{A:QU}{kr:AV}{l:List Int}(hA:Ak n0 A kr l):yp (Xc A).F kr:=fun c m o n y e=>by
 cases hA with
 |none=>cases e
 |own h1 h2=>injection e with e1 e2;subst e1;exact⟨_,_,List.mem_cons_self ..⟩
theorem Ak.nodup{n0:Nat}{A:QU}{kr:AV}{l:List Int}(hA:Ak n0 A kr l):(A.map Prod.fst).Nodup:=by cases hA<;>simp
theorem vr{h:Hp}{c m:Nat}{z:Int}(r:Q0 h c m [.int .i64 z]):Ji h [] 1 (zC [z]) (.sl c m 0 1 1):=Ji.own (ls:=zC [z]) r (Fs _) QA (by simp[zC])
theorem LB{P:Program}{G:Env}{K:List (Nat×AV)}{st:St}{t yt:TypeId}{x y:Operand}{a:Nat}(hx:QX G K x=some (.int .i64 (a:Nat)))(hy:QX G K y=some (.int .i64 1))(h1:1≤a)(hb:a≤9223372036854775807):U3 P G K (.binOp .sub t x y yt) st (.int .i64 (a-1:Nat)) st:=by
 rw[show((a-1:Nat):Int)=((a:Nat):Int)-1 by omega];exact PF hx hy Qe Qe
theorem vv(L:List (List Int))(q:List Int):L.length≤(AP L q).length:=by
 unfold AP;split
 ·exact Nat.le_refl _
 ·simp
theorem je{L:List (List Int)}{q:List Int}{n:Nat}(h:n≤L.length):(AP L q).take n=L.take n:=by
 unfold AP;split
 ·rfl
 ·rw[List.take_append_of_le_length h]
theorem Uw{α:Type}{L L2:List α}{n:Nat}(h:L2.take n=L.take n)(hn:n≤L.length):n≤L2.length:=by
 have:=congrArg List.length h;rw[List.length_take,List.length_take]at this;omega
theorem XX{α:Type}{L L2:List α}{i:Nat}{q:α}(h:L2.take (i+1)=L.take (i+1))(hq:L[i]? =some q):L2[i]? =some q:=by
 have e:=congrArg (fun l=>l[i]?) h;simp only[List.getElem?_take]at e
 simpa [hq]using e
theorem Vm.AQ{α:Type}{δ:α→Nat→α}{s0:α}{K:Nat}{L:List α}{rows:List (List Int)}{row:List Int}(H:Vm δ s0 K L rows row)(hL:L.length≤400):Vh row:=fun z hz=>by
 have:=H.bound z (List.mem_append_right _ hz)
 constructor<;>omega
theorem ze{st:St}(hf:Qj st){F:Fp}{xp cp mp l:Nat}(H:NL st.h.get F xp cp mp [] l)(hi: ∀c,BW F xp mp c→c<st.n)(hl1:1≤l)(hl:l≤9223372036854775807){c0 m0:Nat}(hq:Q0 st.h.get c0 m0 [.int .i64 0])(hX: ¬BW F xp mp c0):
  ∃v st',Ev Tryz.prog Q4 37 [.ptr xp 0 0,.sl c0 m0 0 1 1] st v st'∧v=.tup [.int .i64 0,.bool true]∧ ∃F',NL st'.h.get F' xp cp mp [[0]] (l-1)∧WK st st' (BW F xp mp) (BW F' xp mp)∧UH (BW F xp mp) st st':=by
 obtain⟨v,st',h1,h2,F',h3⟩:=qR hf H hi QE hl1 hl (q:=[0]) (vr hq) (fun c m o n y e=>by injection e with e1;subst e1;exact hX) (fun z hz=>by rw[List.mem_singleton.1 hz];decide) QE (List.pairwise_singleton _ _);exact⟨v,st',h1,h2,F',h3⟩
theorem MT{st:St}(hf:Qj st){F:Fp}{acc:List Bool}(hD:UY st F dp ⟨a.tr,acc,a.nx⟩)(hn:acc.length=a.n){q:List Int}{kq:AV}(hq:Ji st.h.get [] 1 (zC q) kq)(hs:AS a.n q)(hm:a.n≤400):
  ∃v st',Ev Tryz.prog Q4 42 [kq,.fn 26 [.ptr dp 0 0] []] st v st'∧v=.bool (anyS acc q)∧Qt st st':=by
 refine HJ (fa:=[.ptr dp 0 0]) (fc:=[]) (p:=fun z=>I4 acc z.toNat) hf hq (by have:=hs.len;omega) fun x hx st1 q1=>?_;have hb:=hs.2 x hx;have:=V5 q1.fresh (hD.q q1) (s:=x.toNat) (by show x.toNat<acc.length;omega);rw[Int.toNat_of_nonneg hb.1]at this;exact this
def er(st st':St)(a:Au)(k:Nat)(acc:List Bool)(mp l:Nat)(v:AV):Prop:=
 (∃dp2 F2 L m,v=.tup [.ptr dp2 0 0,.int .i64 0]∧UY st' F2 dp2 m∧ZJ st st' F2∧m.tr=a.tr-1∧UA (Uo a k) [0] (anyS acc) L m∧Q0 st'.h.get mp 0 [.int .i64 (l-L.length:Nat),.bool false])∨
 (v=.tup [.nilp,.int .i64 8]∧ ∃L:List (List Int),L.length=401∧L.Nodup∧(∀(Q:List Int→Prop),Q [0]→(∀s c,Q s→c<2^(a.tr-1)→Q (Uo a k s c))→ ∀s∈L,Q s)∧Q0 st'.h.get mp 0 [.int .i64 (l-401:Nat),.bool false])

theorem CO{st:St}(hf:Qj st){F:Fp}(hD:UY st F dp a){k:Nat}(hk:k<a.tr){mp l:Nat}(hm:Q0 st.h.get mp 0 [iN l,.bool false])(hdm: ¬F mp)(hl1:401≤l)(hl:l≤9223372036854775807): ∃v st',Ev Tryz.prog Q4 12 [.ptr dp 0 0,iN k,.ptr mp 0 0] st v st'∧(∃YA,Az a k YA∧er st st' a k YA mp l v)∧UH (fun c=>c=mp) st st':=by
 have wf:=hD.wf;have htr:=wf.tr;have hmo:=wf.most;have hp6:=JE (T:=a.tr-1) Qe;have hp0:0<2^(a.tr-1):=Nat.two_pow_pos _;have hdF: ∀c,F c→ ¬(Yd mp l false).F c:=fun c hc e=>hdm ((show c=mp from e)▸hc);have B:=Qk.UM (o:=Yd mp l false) hf hm (fun c hc=>(show c=mp from hc)▸hm.lt hf);refine JF Tryz.func12 Tryz.ntmps12 fun T K=>?_;have M:=B.mem;refine Qc 4 K M ?_;intro _ K;replace B:=B.step M;obtain⟨v24,st24,ev24,dpc,Fc,YA,rfl,hcl,hDc,nfc,q24⟩:=TE B.fresh (hD.NP B.JM hdF) hk;refine p1 K (Qh rfl ev24) fun _ K=>?_;replace B:=B.new (o:=FG Fc dpc ⟨a.tr,YA,a.nx⟩) q24 hDc.at_ nfc;have M:=B.mem;refine Qc 7 K M ?_;intro _ K;refine Qq (K.QI rfl) (fun h28=>?_) (fun h28=>?_)
 ·have hb28:=h28
  replace h28: ¬(0=0):=by first|exact of_decide_eq_false h28|exact yF h28|simpa using h28
  exfalso;omega
 have hb28:=h28
 replace h28:(0=0):=by first|exact of_decide_eq_true h28|exact yT h28|simpa using h28
 refine Qc 0 K M ?_;intro _ K;replace B:=B.step M;obtain⟨v30,st30,ev30,cp,rfl,hPn,q30⟩:=z6 B.fresh;refine p1 K (Qh rfl ev30) fun _ K=>?_;obtain⟨Fq,hPn,hnp⟩: ∃Fq,Z7 _ Fq cp []∧ZJ _ _ Fq:=⟨_,hPn,fun c hc=>hc⟩;replace B:=B.new (o:=Hn Fq cp []) q30 hPn hnp;have M:=B.mem;refine au 4 K M ?_;intro c33 _ _ K _ M;replace B:=(B.step M).eS;have M:=B.mem;refine au 2 K M ?_;intro c36 _ _ K _ M;replace B:=B.step M;obtain⟨v37,st37,ev37,rfl,F1,hM1,mf1,Q1⟩:=ze B.fresh (B.x7 (k:=0) rfl) (B.Yu (k:=0) rfl) Qe hl (B.row c36 0 _ QA) (B.djM _ (List.mem_cons_self ..) c36 0 _ (List.mem_cons_self ..));refine p1 K (Qh rfl ev37) fun _ K=>?_;replace B:=B.call (k:=0) (o':=vJ F1 c33 cp mp [[0]] (l-1)) rfl Q1 hM1 mf1;have M:=B.mem;refine Qc 9 K M ?_;intro _ K;refine oQ K M (Xm M.fresh (hD.NP (B.step M).JM hdF)) rfl rfl fun _ _ K M=>?_;refine p1 K (LB rfl rfl Qe Qe) fun _ K=>?_;refine au 4 K M ?_;intro c13 _ _ K _ M;replace B:=B.step M;obtain⟨v47,st47,ev47,nau,q47⟩:=Kb B.fresh (hD.NP B.JM hdF);refine p1 K (Qh rfl ev47) fun _ K=>?_;obtain⟨kato,knto,vsto,Ato,Fto,rfl,hAto,B⟩:=B.Hu q47 nau;replace B:=B.less (List.sublist_append_left _ _);have hnto:Qu knto=true:=(Xo.rd (B.at_ (k:=0) rfl)).cell;have M:=B.mem;refine p1 K (EI rfl ((Zq _).trans (Qf Q5 rfl))) fun _ K=>?_;refine Qc 1 K M ?_;intro _ K;replace B:=(B.step M).Vv;have M:=B.mem;refine Qc 1 K M ?_;intro _ K;refine Jc (fun mm1 T st9=> ∃(i:Nat) (L:List (List Int)) (Fk:Fp) (LLr:List (List Int)) (vsr:List AV) (Fr:Fp) (ka:AV) (Aa:QU) (kr:AV) (Ar:QU),mm1=400-i∧QY [(1,iN k),(8,.ptr dpc 0 0),(10,.ptr c33 0 0),(13,.ptr c13 0 0),(14,knto),(15,iN i)] T∧Qk st (Yd mp l false).F st9 ((c13,0,[iZ (a.tr-1:Nat),ka,kr])::(c36,0,[iZ 0])::(Aa++(Ar++[]))) [E8 Fr vsr LLr,Bu Fto knto vsto a.nx,vJ Fk c33 cp mp L (l-L.length),FG Fc dpc ⟨a.tr,YA,a.nx⟩]∧Vm (Uo a k) [0] (2^(a.tr-1)) L LLr []∧LLr.length=i∧i≤L.length∧L.length≤400∧Acc 0 1 Aa ka (bC ((L.take i).map (anyS YA)))∧YO Ar kr vsr) (fun mm1 T st9 hI=>?_) _ _ _ ⟨0,[[0]],_,[],[],_,.nils,[],.nils,[],rfl,(K.sub rfl),(B.step M).less (.refl _),(Vm.start _ _ _),rfl,QE,QE,.none,.none⟩;obtain⟨i,L,Fk,LLr,vsr,Fr,ka,Aa,kr,Ar,rfl,K,B,hP,hLL,hiL,hL,hAa,hAr⟩:=hI;have M:=B.mem;have hall: ∀s∈L,AS a.n s:=fun s hs=>hP.all (Q:=AS a.n) (AS.zero wf.pos) (fun s c hs hc=>hs.step wf hk hc) (Nat.two_pow_pos _) hs;refine Qc 4 K M ?_;intro _ K;refine p1 K (Qd rfl (Qz ((B.step M).x7 (k:=2) rfl).row.Jd (Qf YS rfl))) fun _ K=>?_;refine oQ K M (KV (L:=L) M.fresh ((B.step M).x7 (k:=2) rfl).pool) rfl rfl fun _ _ K M=>?_;refine Qc 1 K M ?_;intro _ K;refine JP K rfl (fun h55=>?_) fun h55=>?_
 ·refine Qc 3 K M ?_;intro _ K;refine p1 K (Qd rfl (Qz ((B.step M).x7 (k:=2) rfl).row.Jd (Qf YS rfl))) fun _ K=>?_;refine Qc 1 K M ?_;intro _ K;obtain⟨q,hqi⟩: ∃q,L[i]? =some q:=⟨_,List.getElem?_eq_getElem Qe⟩;have hqS:=hall q (List.mem_of_getElem? hqi);obtain⟨v63,st63,ev63,kg,rfl,nrg,q63⟩:=zM M.fresh ((B.step M).x7 (k:=2) rfl).pool (fun s hs=>Nat.le_trans (hall s hs).len Qe) (fun c hc=>(B.step M).Yu (k:=2) rfl c (.inl hc)) ((i:Nat):Int);refine p1 K (Qh rfl ev63) fun _ K=>?_;rw[SE Qe (show L[((i:Nat):Int).toNat]? =some q from hqi)]at nrg;obtain⟨Ag,hAg,M⟩:=M.Ys q63 nrg;replace hAg:=hAg.z0;simp only[List.append_assoc,List.cons_append,List.nil_append,List.set_cons_zero,List.set_cons_succ]at M;refine Qc 4 K M ?_;intro _ K;refine p1 K (Y4 (n:=(a.tr-1)) rfl rfl Qe) fun _ K=>?_;refine Qc 1 K M ?_;intro _ K;refine Jc (fun mm2 T st9=> ∃(c:Nat) (L2:List (List Int)) (F2:Fp) (row:List Int) (kw:AV) (Aw:QU),mm2=2^(a.tr-1)-c∧QY [(1,iN k),(8,.ptr dpc 0 0),(10,.ptr c33 0 0),(13,.ptr c13 0 0),(14,knto),(15,iN i),(16,v63),(17,kw),(66,iZ (2^(a.tr-1):Nat)),(67,iN c)] T∧Qk st (Yd mp l false).F st9 ((c13,0,[iZ (a.tr-1:Nat),ka,kr])::(c36,0,[iZ 0])::(Aa++(Ar++(Ag++(Aw++[]))))) [E8 Fr vsr LLr,Bu Fto knto vsto a.nx,vJ F2 c33 cp mp L2 (l-L2.length),FG Fc dpc ⟨a.tr,YA,a.nx⟩]∧Vm (Uo a k) [0] (2^(a.tr-1)) L2 LLr row∧row.length=c∧c≤2^(a.tr-1)∧L2.length≤400∧L2.take (i+1)=L.take (i+1)∧Acc 0 1 Aw kw (zC row)) (fun mm2 T st9 hI=>?_) _ _ _ ⟨0,L,Fk,[],.nils,[],rfl,(K.sub rfl),(B.step M).less (.refl _),hP,rfl,(Nat.zero_le _),hL,rfl,.none⟩;obtain⟨c,L2,F2,row,kw,Aw,rfl,K,B,hP2,hrow,hcK,hL2,htk,hAw⟩:=hI;have M:=B.mem;refine Qc 1 K M ?_;intro _ K;refine JP K rfl (fun h68=>?_) fun h68=>?_
  ·refine Qc 7 K M ?_;intro _ K;replace B:=B.step M;obtain⟨v76,st76,ev76,kx,Ax,rfl,hAx,hrx,q76⟩:=qQ (c:=c) (q:=q) B.fresh wf (Xo.r (B.at_ (k:=1) rfl)) (Mem.Yx (L:=((c13,0,[iZ (a.tr-1:Nat),ka,kr])::(c36,0,[iZ 0])::(Aa++(Ar++[])))) (A:=Ag) (B:=(Aw++[])) (Mem.cast (M:=((c13,0,[iZ (a.tr-1:Nat),ka,kr])::(c36,0,[iZ 0])::(Aa++(Ar++(Ag++(Aw++[])))))) (M':=((c13,0,[iZ (a.tr-1:Nat),ka,kr])::(c36,0,[iZ 0])::(Aa++(Ar++[])))++(Ag++(Aw++[]))) M Uz) hAg) hqS.2 (Nat.le_trans hqS.len wf.most) hk Qe;refine p1 K (Qh rfl ev76) fun _ K=>?_;replace B:=B.uE q76 (fun c m l h=>⟨hrx c m l h,hAx.ge h⟩) hAx.nodup;replace B:=B.cast (M':=((c13,0,[iZ (a.tr-1:Nat),ka,kr])::(c36,0,[iZ 0])::(Aa++(Ar++(Ag++(Aw++(Ax++[]))))))) Uz;have M:=B.mem;replace B:=B.step M;have hq2S:=hqS.step wf hk (c:=c) Qe;have hge:=vv L2 (Uo a k q c);have hle:=zu L2 (Uo a k q c);have hPid:=hP2.id Qe (show L2[LLr.length]? =some q by rw[hLL];exact XX htk hqi);rw[hrow]at hPid;obtain⟨v77,st77,ev77,rfl,F3,hM3,mf3,Q3⟩:=qR B.fresh (B.x7 (k:=2) rfl) (B.Yu (k:=2) rfl) hL2 Qe Qe (Mem.xk (L:=((c13,0,[iZ (a.tr-1:Nat),ka,kr])::(c36,0,[iZ 0])::(Aa++(Ar++(Ag++(Aw++[])))))) (A:=Ax) (B:=[]) (Mem.cast (M:=((c13,0,[iZ (a.tr-1:Nat),ka,kr])::(c36,0,[iZ 0])::(Aa++(Ar++(Ag++(Aw++(Ax++[]))))))) (M':=((c13,0,[iZ (a.tr-1:Nat),ka,kr])::(c36,0,[iZ 0])::(Aa++(Ar++(Ag++(Aw++[])))))++(Ax++[])) M Uz) hAx) (fun c m o n y e hc=>by obtain⟨m',l',hm'⟩:=hAx.zL c m o n y e;exact B.djM (vJ F2 c33 cp mp L2 (l-L2.length)) QA c m' l' (by simp[hm']) hc) (hq2S.AQ wf.most) (Nat.le_trans hq2S.len Qe) hq2S.1;refine p1 K (Qh rfl ev77) fun _ K=>?_;rw[show l-L2.length-((AP L2 (Uo a k q c)).length-L2.length)=l-(AP L2 (Uo a k q c)).length by omega]at hM3;replace B:=B.call (k:=2) (o':=vJ F3 c33 cp mp (AP L2 (Uo a k q c)) (l-(AP L2 (Uo a k q c)).length)) rfl Q3 hM3 mf3;have M:=B.mem;refine Qc 7 K M ?_;intro _ K;refine Qq (K.QI rfl) (fun h81=>?_) (fun h81=>?_)
   ·have hb81:=h81
    replace h81: ¬(((AP L2 (Uo a k q c)).length:Int)≤400):=by first|exact of_decide_eq_false h81|exact yF h81|simpa using h81
    refine Qc 2 K M ?_;replace B:=B.step M
    have h401:(AP L2 (Uo a k q c)).length=401:=by omega
    have hmt:=(B.x7 (k:=2) rfl).met;rw[h401]at hmt;exact⟨⟨YA,hcl,.inr ⟨rfl,_,h401,hPid.nodup,fun Q h0 hs s hm=>hPid.all h0 hs (Nat.two_pow_pos _) hm,hmt⟩⟩,B.JM⟩
   have hb81:=h81
   replace h81:(((AP L2 (Uo a k q c)).length:Int)≤400):=by first|exact of_decide_eq_true h81|exact yT h81|simpa using h81
   refine au 3 K M ?_;intro c84 _ _ K _ M;refine Je (k2:=0) (L:=((c84,0,[iZ (PM L2 (Uo a k q c):Nat)])::(c13,0,[iZ (a.tr-1:Nat),ka,kr])::(c36,0,[iZ 0])::(Aa++(Ar++(Ag++[]))))) (A:=Aw) (B:=(Ax++[])) K (Mem.cast (M:=((c84,0,[iZ (PM L2 (Uo a k q c):Nat)])::(c13,0,[iZ (a.tr-1:Nat),ka,kr])::(c36,0,[iZ 0])::(Aa++(Ar++(Ag++(Aw++(Ax++[]))))))) (M':=((c84,0,[iZ (PM L2 (Uo a k q c):Nat)])::(c13,0,[iZ (a.tr-1:Nat),ka,kr])::(c36,0,[iZ 0])::(Aa++(Ar++(Ag++[]))))++(Aw++(Ax++[]))) M Uz) hAw QM rfl rfl rfl rfl (by rw[Qn];omega) rfl fun ks85 A85 _ _ K hA85 M=>?_;simp only[List.append_assoc,List.cons_append,List.nil_append,List.set_cons_zero,List.set_cons_succ]at M;refine Qc 3 K M ?_;intro _ K;exact⟨_,Qe,c+1,_,F3,(row++[((PM L2 (Uo a k q c):Nat):Int)]),ks85,A85,rfl,(K.sub rfl),(B.step M).less (.cons _ (.cons_cons _ (.cons_cons _ (List.Sublist.append_left (List.Sublist.append_left (List.Sublist.append_left (List.Sublist.append_left (List.nil_sublist _) _) _) _) _)))),hPid,(by rw[List.length_append,hrow];rfl),Qe,Qe,(by rw[je (Uw htk Qe),htk]),(by rw[JV];exact hA85)⟩
  refine QT ?_;show W _ _ _ _ _ _ _;refine Qc 1 K M ?_;intro _ K;refine p1 K (Qd rfl (M.load (k:=0) rfl (Qf Q5 rfl))) fun _ K=>?_;refine Qc 1 K M ?_;intro _ K;refine Xy K M QR Uv rfl ((J9 rfl hAw.cell rfl).trans rfl) (Qb hAw.cell Q7) rfl rfl fun c90 _ _ K M=>?_;refine YG (k2:=0) (L:=((c90,0,[kw])::(c13,0,[iZ (a.tr-1:Nat),ka,kr])::(c36,0,[iZ 0])::(Aa++[]))) (A:=Ar) (B:=(Ag++(Aw++[]))) K (Mem.cast (M:=((c90,0,[kw])::(c13,0,[iZ (a.tr-1:Nat),ka,kr])::(c36,0,[iZ 0])::(Aa++(Ar++(Ag++(Aw++[])))))) (M':=((c90,0,[kw])::(c13,0,[iZ (a.tr-1:Nat),ka,kr])::(c36,0,[iZ 0])::(Aa++[]))++(Ar++(Ag++(Aw++[])))) M Uz) hAr QR rfl rfl rfl (by have:=YN.ln ((B.step M).at_ (k:=0) rfl);omega) rfl fun ks91 A91 _ _ K hA91 _ M=>?_;simp only[List.append_assoc,List.cons_append,List.nil_append,List.set_cons_zero,List.set_cons_succ]at M;refine Qc 1 K M ?_;intro _ K;refine Jh (k:=1) K M rfl rfl rfl Ux (hA91.cell) rfl fun _ M=>?_;refine Un ?_;show W _ _ _ _ _ _ _;refine QD (l:=[(2,0),(3,0),(4,0),(5,0),(0,0),(1,1),(6,0),(7,0),(8,0),(9,0)]) (by kernel_rfl) ?_;have Mq:=M;refine Jf 2 K M ?_;intro _ K;refine q1 rfl K (Xt rfl rfl) fun _ K=>?_;obtain⟨v98,st98,ev98,rfl,q98⟩:=MT M.fresh ((B.step M).MV (k:=3) rfl) hcl.len (Mem.Yx (L:=((c90,0,[kw])::(c13,0,[iZ (a.tr-1:Nat),ka,ks91])::(c36,0,[iZ 0])::(Aa++(A91++[])))) (A:=Ag) (B:=(Aw++[])) (Mem.cast (M:=((c90,0,[kw])::(c13,0,[iZ (a.tr-1:Nat),ka,ks91])::(c36,0,[iZ 0])::(Aa++(A91++(Ag++(Aw++[])))))) (M':=((c90,0,[kw])::(c13,0,[iZ (a.tr-1:Nat),ka,ks91])::(c36,0,[iZ 0])::(Aa++(A91++[])))++(Ag++(Aw++[]))) M Uz) hAg) hqS wf.most;refine qA rfl K (Qh rfl ev98) fun _ K=>?_;replace M:=M.quiet q98;have Mp:=Mq;have Mq:=M;refine Jf 1 K M ?_;intro _ K;refine Js rfl K rfl (M.load (k:=1) rfl (Qf Us rfl)) (Mp.load (k:=1) rfl (Qf Us rfl)) (JR (JL hAa.len)) rfl QE fun _ K=>?_;refine XR rfl K M J3 XU rfl rfl rfl rfl rfl fun c99 _ _ K M=>?_;refine Xz (k2:=0) (L:=[(c99,0,[.bool (anyS YA q)]),(c90,0,[kw]),(c13,0,[iZ (a.tr-1:Nat),ka,ks91]),(c36,0,[iZ 0])]) (A:=Aa) (B:=(A91++(Ag++(Aw++[])))) rfl K M hAa J3 rfl rfl rfl rfl (by rw[Jw,List.length_map,List.length_take];omega) rfl fun ks100 A100 _ _ K hA100 M=>?_;have Mp:=Mq;have Mq:=M;refine Jf 1 K M ?_;intro _ K;refine Zc (k:=2) rfl K M rfl rfl rfl UF (hA100.cell) rfl fun _ M=>?_;have Mp:=Mq;have Mq:=M;refine QG ?_;show W _ _ _ _ _ _ _;refine Qc 3 K M ?_;intro _ K;replace B:=B.step M;obtain⟨Fr,B⟩:=Qk.Z5 (L:=((c99,0,[.bool (anyS YA q)])::(c90,0,[kw])::(c13,0,[iZ (a.tr-1:Nat),ks100,ks91])::(c36,0,[iZ 0])::(A100++(A91++(Ag++[]))))) (A:=Aw) (B:=[]) (B.cast Uz) hAw (hP2.AQ hL2);replace B:=B.cast (M':=((c99,0,[.bool (anyS YA q)])::(c90,0,[kw])::(c13,0,[iZ (a.tr-1:Nat),ks100,ks91])::(c36,0,[iZ 0])::(A100++(A91++(Ag++[]))))) Uz;have M:=B.mem;have hi2:=Uw htk Qe
  have htq:L.take (i+1)=L.take i++[q]:=by rw[List.take_add_one,hqi];rfl
  exact⟨_,Qe,i+1,L2,F2,(LLr++[row]),_,_,ks100,A100,ks91,A91,rfl,(K.sub rfl),(B.step M).less (.cons _ (.cons _ (.cons_cons _ (.cons_cons _ (List.Sublist.append_left (List.Sublist.append_left (List.nil_sublist _) _) _))))),(hP2.whole Qe),(by rw[List.length_append,hLL];rfl),hi2,hL2,(by rw[htk,htq,List.map_append,XK];exact hA100),hA91⟩
 refine QT ?_;show W _ _ _ _ _ _ _;refine Qc 1 K M ?_;intro _ K;replace B:=B.step M;have hti:L.take i=L:=List.take_of_length_le Qe;rw[hti]at hAa;have hMd:=hP.made (p:=anyS YA) (m:=⟨a.tr-1,L.map (anyS YA),LLr⟩) (by show LLr.length=_;omega) rfl (by show a.tr-1≤6;omega) hL;obtain⟨Fo,B⟩:=Qk.GC (L:=((c13,0,[iZ (a.tr-1:Nat),ka,kr])::(c36,0,[iZ 0])::(Aa++[]))) (A:=Ar) (B:=[]) (B.cast Uz) hAr;replace B:=B.cast (M':=((c13,0,[iZ (a.tr-1:Nat),ka,kr])::(c36,0,[iZ 0])::(Aa++[]))) Uz;have M:=B.mem;obtain⟨v103,st103,ev103,dp2,F2,rfl,hD2,nf2,q103⟩:=WJ (a:=⟨a.tr-1,L.map (anyS YA),LLr⟩) B.fresh hMd.wf (Mem.Yx (L:=[(c13,0,[iZ (a.tr-1:Nat),ka,kr]),(c36,0,[iZ 0])]) (A:=Aa) (B:=[]) M hAa) (Xo.r (B.at_ (k:=0) rfl));refine p1 K (Qh rfl ev103) fun _ K=>?_;have hle0:=B.le;replace B:=B.quiet q103;have M:=B.mem;refine Qc 4 K M ?_;exact⟨⟨YA,hcl,.inl ⟨dp2,F2,L,_,rfl,hD2,fun c hc=>⟨Nat.le_trans hle0 (nf2 c hc).1,(nf2 c hc).2⟩,rfl,hMd,(B.x7 (k:=2) rfl).met⟩⟩,B.JM⟩
end Go.Proofs.YtiknomepbklibaaGreatDoor
end
