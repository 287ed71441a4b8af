/-
  The next set, a set's number: the program's.
-/
import Derived.Test.YtiknomepbklibaaGreatDoorQsPja
set_option maxHeartbeats 8000000
set_option maxRecDepth 100000
set_option linter.unnecessarySimpa false
set_option linter.unusedSimpArgs false
set_option linter.unusedVariables false
namespace Go.Proofs.YtiknomepbklibaaGreatDoor
open Go Go.RowKit
section
variable {F:Fp} {L:List (List Int)} {cp l mp xp:Nat} {st:St}

def HT(F:Fp)(cp:Nat)(L:List (List Int)):Ob:=⟨F,fun h=>ZG h F cp L,fun _ _ e H=>H.frame e⟩
structure O8(h:Hp)(F:Fp)(xp cp mp:Nat)(L:List (List Int))(l:Nat):Prop where
 pool:ZG h F cp L
 met:Qx h mp 0 [.int .i64 (l:Nat),.bool false]
 row:Qx h xp 0 [.ptr cp 0 0,.ptr mp 0 0]
 d1: ¬F mp
 d2: ¬F xp
 d3:xp≠mp
def CE(F:Fp)(xp mp:Nat):Fp:=fun c=>F c∨c=mp∨c=xp
theorem O8.frame{h h':Hp}{F:Fp}{xp cp mp:Nat}{L:List (List Int)}{l:Nat}(e: ∀c,CE F xp mp c→h' c=h c)(H:O8 h F xp cp mp L l):O8 h' F xp cp mp L l:=
 ⟨H.pool.frame fun c hc=>e c (.inl hc),H.met.frame (e mp (.inr (.inl rfl))),H.row.frame (e xp (.inr (.inr rfl))),H.d1,H.d2,H.d3⟩
def eN(F:Fp)(xp cp mp:Nat)(L:List (List Int))(l:Nat):Ob:=⟨CE F xp mp,fun h=>O8 h F xp cp mp L l,fun _ _ e H=>H.frame e⟩
theorem Qk.xk(hf:Qi st)(H:O8 st.h.get F xp cp mp L l)(hi: ∀c,CE F xp mp c→c<st.n):Qk st (CE F xp mp) st [(xp,0,[.ptr cp 0 0,.ptr mp 0 0])] [HT F cp L,Yr mp l false]:=by
 refine⟨hf,Nat.le_refl _,fun c m x h=>?_,by simp,fun c m x h=>?_,fun o h=>?_,fun o h c hc=>?_,?_,fun o h c m x hm hc=>?_,fun _ _ _=>rfl⟩
 ·simp at h;obtain⟨rfl,rfl,rfl⟩:=h;exact H.row
 ·simp at h;obtain⟨rfl,rfl,rfl⟩:=h;exact .inr (.inr (.inr rfl))
 ·simp at h;rcases h with rfl|rfl
  ·exact H.pool
  ·exact H.met
 ·simp at h;rcases h with rfl|rfl
  ·exact⟨hi c (.inl hc),.inr (.inl hc)⟩
  ·exact⟨hi c (.inr (.inl hc)),.inr (.inr (.inl hc))⟩
 ·refine List.pairwise_cons.2 ⟨fun o h c h1 h2=>?_,List.pairwise_singleton _ _⟩;rw[List.mem_singleton.1 h]at h2;exact H.d1 ((show c=mp from h2)▸h1)
 ·simp at hm;obtain⟨rfl,rfl,rfl⟩:=hm
  simp at h;rcases h with rfl|rfl
  ·exact H.d2 hc
  ·exact H.d3 hc
theorem Qk.y8{st':St}{F':Fp}(B:Qk st (CE F xp mp) st' [(xp,0,[.ptr cp 0 0,.ptr mp 0 0])] [HT F' cp L,Yr mp l false]): ∃F',O8 st'.h.get F' xp cp mp L l∧Ee st st' (CE F xp mp) (CE F' xp mp)∧UQ (CE F xp mp) st st':=by
 have hp:=(List.pairwise_cons.1 B.dj).1 (Yr mp l false) Q4;refine⟨F',⟨B.at_ (k:=0) rfl,B.at_ (k:=1) rfl,B.row _ _ _ (List.mem_singleton.2 rfl),fun h=>hp mp h rfl,B.djM (HT F' cp L) Q4 xp 0 _ (List.mem_singleton.2 rfl),fun e=>B.djM (Yr mp l false) Q4 xp 0 _ (List.mem_singleton.2 rfl) e⟩,fun c hc=>?_,B.JM⟩;rcases hc with hc|hc|hc
 ·exact⟨(B.L7 (k:=0) rfl c hc).symm,B.Y3 (k:=0) rfl c hc⟩
 ·exact⟨(B.L7 (k:=1) rfl c hc).symm,B.Y3 (k:=1) rfl c hc⟩
 ·subst hc;exact⟨.inl (.inr (.inr rfl)),(B.row c 0 _ (List.mem_singleton.2 rfl)).lt B.fresh⟩
theorem NB(hf:Qi st)(hr:Qx st.h.get mp 0 [.int .i64 (l:Nat),.bool false])(hl:l≤9223372036854775807)(n:Nat)(hn:n≤l): ∃v st',Jf 62 [.ptr mp 0 0,.int .i64 (n:Nat)] st v st'∧v=.bool true∧(Yr mp (l-n) false).H st'.h.get∧UQ (fun c=>c=mp) st st':=by
 obtain⟨v,st',h1,h2,h3,h4⟩:=GI hf hr hl n Qc;exact⟨v,st',h1,by rw[h2,Tp hn],by rw[HZ hn]at h3;exact h3,h4⟩
theorem jQ(hf:Qi st){a:Au}(wf:Zp a){kn:AV}{ls:List (List AV)}(hN:OC st.h.get a.nx kn ls){q:List Int}{kq:AV}(hq:Jg st.h.get [] 1 (zC q) kq)(hqs: ∀z∈q,0≤z∧z<((a.n:Nat):Int))(hql:q.length≤400){c k:Nat}(hk:k<a.tr)(hc:c<2^(a.tr-1)): ∃v st',Jf 41 [kn,kq,iN c,iN k] st v st'∧ ∃kr A,v=kr∧AN st.n A kr (JY a k q c)∧(∀c' m l,(c',m,l)∈A→Qx st'.h.get c' m l)∧Qt st st':=by
 have htr:=wf.tr;have hlen:=wf.len;have hc62:c≤64:=by have:=JG (T:=a.tr-1) Qc;omega
 have hu0:=IJ hk hc (u:=0) Q8;have hu1:=IJ hk hc (u:=1) Q8;have hp6:=JG htr;have hnc:=hN.r.cell;have hqc:=hq.cell;have hlo:=IT k c;have hpk:=ja wf hk;have hcm:c % 2^k≤c:=Nat.mod_le _ _
 have hh0:c/2^k *2^(k+1)≤Zq k c 0:=by unfold Zq;omega
 have hh1:c/2^k *2^(k+1)≤9223372036854775807:=by omega
 refine J7 Tryz.func41 Tryz.ntmps41 fun T K=>?_;have M:=Mem.start hf;refine Qb 3 K M fun _ K=>?_;refine p1 K (US (n:=k) rfl rfl Qc) fun _ K=>?_;refine Qb 1 K M fun _ K=>?_;refine p1 K (Td (k:=k) (c:=c) rfl rfl Qc Qc) fun _ K=>?_;refine Qb 5 K M fun _ K=>?_;refine p1 K (jY (k:=k) (c:=c) rfl rfl Qc) fun _ K=>p1 K (Nx (SY k c) rfl rfl Qc hh1) fun _ K=>?_;refine Qb 3 K M fun _ K=>?_;refine p1 K (Q5 Je rfl rfl (hq.len.trans (congrArg some (Qp _)))) fun _ K=>?_;refine Qb 1 K M fun _ K=>?_;refine QX (fun mm1 T st9=> ∃(i:Nat) (ko:AV) (A:U9),mm1=q.length-i∧QS [(0,kn),(3,iN k),(8,.nils),(10,iZ (Zq k c 0:Nat)),(11,ko),(25,kq),(26,iZ (q.length:Nat)),(27,iN i)] T∧Mem st.h.get st.n [] st9 (A++[])∧i≤q.length∧Acc st.n 1 A ko (zC (WK a k c (q.take i)))) (fun mm1 T st9 hI=>?_) _ _ _ ⟨0,.nils,[],rfl,(K.sub rfl),M.less (.refl _),(Nat.zero_le _),(by rw[List.take_zero];exact .none)⟩;obtain⟨i,ko,A,rfl,K,M,hiq,hA⟩:=hI;refine Qb 1 K M fun _ K=>?_;refine Jt K rfl (fun h28=>?_) fun h28=>?_
 ·refine Qb 0 K M fun _ K=>?_;obtain⟨y29,hi29⟩:=Uy q i Qc;have hb29:=hqs y29 (List.mem_of_getElem? hi29);refine oI (Jg.mem M hq Q4) (Jm hi29) K Qo Qn rfl rfl rfl fun _ _ _ _ K=>?_;refine Qb 1 K M fun _ K=>?_;refine QA (l:=[(0,0),(1,0),(2,0),(3,0),(4,0),(5,0),(6,0),(7,0),(8,0),(9,0),(10,0),(11,0),(12,0),(13,0),(14,0),(15,0),(16,0),(17,0),(18,0),(19,0),(20,0)]) (by kernel_rfl) ?_;refine Jo 3 K M fun _ K=>?_;obtain⟨s34,hi34⟩:=Uy a.nx ((y29).toNat) Qc;obtain⟨_,hc34,w34,rfl,hr34,hz34⟩:=hN.at_ _ _ hi34;have hw34:=wf.row s34 (List.mem_of_getElem? hi34);have hl34:s34.length=2^a.tr:=hw34.1;obtain⟨x34,m34,f34,q34,_,la34,lo34,lp34⟩:=(Jg.mem M hN.r Q4).load (i:=(y29).toNat) (cs:=_) hc34;refine q1 rfl K (Qe (j:=(y29).toNat) QY (congrArg some q34) (congrArg (fun z=>some (iZ z)) (by omega:_=(((y29).toNat:Nat):Int))) (by rw[hN.ln];omega)) fun _ K=>q1 rfl K (Qg rfl (lo34 _ 0 _ Ja rfl)) fun _ K=>q1 rfl K (Qy rfl) fun _ K=>?_;obtain⟨y37,hi37⟩:=Uy s34 ((Zq k c 0)) Qc;have hb37:=hw34.2 y37 (List.mem_of_getElem? hi37);refine dI rfl rfl (Jg.mem M hr34 Q4) (Jm hi37) K Qo Qn rfl rfl rfl fun _ _ _ _ K=>?_;refine Jo 2 K M fun _ K=>?_;obtain⟨_,hc41,w41,rfl,hr41,hz41⟩:=hN.at_ _ _ hi34;obtain⟨x41,m41,f41,q41,_,la41,lo41,lp41⟩:=(Jg.mem M hN.r Q4).load (i:=(y29).toNat) (cs:=_) hc41;refine q1 rfl K (Qe (j:=(y29).toNat) QY (congrArg some q41) (congrArg (fun z=>some (iZ z)) (by omega:_=(((y29).toNat:Nat):Int))) (by rw[hN.ln];omega)) fun _ K=>q1 rfl K (Qg rfl (lo41 _ 0 _ Ja rfl)) fun _ K=>?_;refine Jo 2 K M fun _ K=>?_;refine q1 rfl K (US (n:=k) rfl rfl Qc) fun _ K=>q1 rfl K (Nx (x9 k c) rfl rfl Qc Qc) fun _ K=>?_;obtain⟨y47,hi47⟩:=Uy s34 ((Zq k c 1)) Qc;have hb47:=hw34.2 y47 (List.mem_of_getElem? hi47);refine dI rfl rfl (Jg.mem M hr41 Q4) (Jm hi47) K Qo Qn rfl rfl rfl fun _ _ _ _ K=>?_;refine Xp rfl K M QD Xv rfl rfl rfl rfl rfl fun c49 _ _ K M=>?_;refine Ef (L:=[(c49,0,[iZ y37,iZ y47])]) (B:=[]) (ls2:=[[iZ y37],[iZ y47]]) (Y:=[]) rfl K M hA QD rfl rfl (Jg.own (ls:=[[iZ y37],[iZ y47]]) (Mem.Ya (k:=0) M rfl) Q4 Q4 Q4) Q4 (by simp only[Qp,IQ,List.length_take,List.length_cons,List.length_nil];omega) rfl fun ks50 A50 _ _ K hA50 M=>?_;refine q1 rfl K (JV rfl) fun _ K=>QF ?_;show W _ _ _ _ _ _ _;refine Qb 2 K M fun _ K=>?_;exact⟨_,Qc,i+1,ks50,A50,rfl,(K.sub rfl),M.less (.cons _ (.refl _)),Qc,(by rw[N6 hi29,JH hi34 hi37,JH hi34 hi47,JW,Int.toNat_of_nonneg hb37.1,Int.toNat_of_nonneg hb47.1];exact hA50)⟩
 refine QK ?_;show W _ _ _ _ _ _ _;refine Qb 1 K M fun _ K=>?_;rw[List.take_of_length_le Qc]at hA;have hln:=IQ a k c q;obtain⟨v53,st53,A12,ev53,rfl,M7,hA12⟩:=Gy (L:=[]) (B:=[]) M hA Qc;refine p1 K (Qf rfl ev53) fun _ K=>?_;replace M:=M7;refine Qb 1 K M fun _ K=>?_;obtain⟨v55,st55,A14,ev55,hA14,M9⟩:=Bd (L:=[]) (B:=[]) M hA12 (by rw[YZ];omega);rw[Lt]at hA14;refine p1 K (Qf rfl ev55) fun _ K=>?_;replace M:=M9;refine Qb 1 K M ?_;refine⟨_,A14,rfl,hA14,fun c' m l h=>M.row c' m l (by simp[h]),M.qt⟩

theorem jR(hf:Qi st)(H:O8 st.h.get F xp cp mp L l)(hi: ∀c,CE F xp mp c→c<st.n)(hL:L.length≤400)(hl1:1≤l)(hl:l≤9223372036854775807){q:List Int}{kq:AV}(hq:Jg st.h.get [] 1 (zC q) kq)(hX: ∀c m o n y,kq=.sl c m o n y→ ¬CE F xp mp c)(hz:X5 q)(hql:q.length≤100000)(hs:Wg q): ∃v st',Jf 37 [.ptr xp 0 0,kq] st v st'∧v=.tup [iZ (MA L q:Nat),.bool (decide (((F6 L q).length:Int)≤400))]∧ ∃F',O8 st'.h.get F' xp cp mp (F6 L q) (l-((F6 L q).length-L.length))∧Ee st st' (CE F xp mp) (CE F' xp mp)∧UQ (CE F xp mp) st st':=by
 have B:=Qk.xk hf H hi;have hof:=G8 (L:=L) hs;have hqc:=hq.cell;refine J7 Tryz.func37 Tryz.ntmps37 fun T K=>?_;have M:=B.mem;refine Qb 5 K M fun _ K=>?_;refine p1 K (Qg rfl (M.load (k:=0) rfl (Qd YW rfl))) fun _ K=>?_;replace B:=B.step M;obtain⟨v12,st12,ev12,rfl,q12⟩:=LA (L:=L) B.fresh (B.at_ (k:=0) rfl);refine p1 K (Qf rfl ev12) fun _ K=>?_;replace B:=B.quiet q12;have M:=B.mem;refine Qb 4 K M fun _ K=>?_;refine p1 K (Qg rfl (M.load (k:=0) rfl (Qd YW rfl))) fun _ K=>?_;refine Qb 1 K M fun _ K=>?_;replace B:=B.step M;obtain⟨v18,st18,ev18,rfl,hP2,Q2⟩:=er B.fresh (B.at_ (k:=0) rfl) (B.Y3 (k:=0) rfl) Qc (B.rd hf hq hX) hz hql;refine p1 K (Qf rfl ev18) fun _ K=>?_;generalize hF2:(fun c=>F c∨_)=F2 at hP2;replace B:=B.call (k:=0) (o':=HT F2 cp (F6 L q)) rfl Q2 hP2 (fun c hc=>by rw[show(HT F2 cp (F6 L q)).F c=F2 c from rfl,←hF2]at hc;rcases hc with hc|hc;exact⟨.inl hc,Nat.lt_of_lt_of_le (B.Y3 (k:=0) rfl c hc) Q2.le⟩;exact⟨.inr hc.1,hc.2⟩);have M:=B.mem;refine Qb 4 K M fun _ K=>?_;refine Jt K rfl (fun h21=>?_) fun h21=>?_
 ·refine Qb 3 K M ?_;replace B:=B.step M;rcases hof with⟨a1,a2,a3⟩|⟨a1,a2,a3⟩
  ·have e8:(F6 L q).length=L.length:=by rw[a2]
   refine⟨by rw[decide_eq_true (show((F6 L q).length:Int)≤400 by omega)],?_⟩;rw[show l-((F6 L q).length-L.length)=l by omega];exact B.y8
  ·exfalso;omega
 refine Qb 5 K M fun _ K=>?_;replace B:=B.step M;obtain⟨v28,st28,ev28,rfl,hm3,Q3⟩:=NB B.fresh (B.at_ (k:=1) rfl) hl 1 Qc;refine p1 K (Qf rfl ev28) fun _ K=>?_;replace B:=B.call (k:=1) (o':=Yr mp (l-1) false) rfl Q3 hm3 (fun c hc=>⟨.inl hc,Nat.lt_of_lt_of_le (B.Y3 (k:=1) rfl c hc) Q3.le⟩);have M:=B.mem;refine Qb 4 K M fun _ K=>?_;refine pg K rfl rfl (Qg rfl (M.load (k:=0) rfl (Qd YW rfl))) fun _ K=>?_;replace B:=B.step M;obtain⟨v34,st34,ev34,rfl,q34⟩:=LA (L:=(F6 L q)) B.fresh (B.at_ (k:=0) rfl);refine pg K rfl rfl (Qf rfl ev34) fun _ K=>?_;replace B:=B.quiet q34;have M:=B.mem;refine Qb 4 K M ?_;replace B:=B.step M;rcases hof with⟨a1,a2,a3⟩|⟨a1,a2,a3⟩
 ·exfalso;omega
 ·have e8:(F6 L q).length=L.length+1:=by rw[a2,List.length_append];rfl
  refine⟨rfl,?_⟩;rw[show l-((F6 L q).length-L.length)=l-1 by omega];exact B.y8
end
section
variable {a:Au} {dp:Nat}

theorem UX.OB{st st':St}{F X:Fp}(hD:UX st F dp a)(Q:UQ X st st')(hd: ∀c,F c→ ¬X c):UX st' F dp a:=⟨hD.at_.frame fun c hc=>Q.J9 c (hD.hi c hc) (hd c hc),fun c hc=>Nat.lt_of_lt_of_le (hD.hi c hc) Q.le⟩
section
variable {st0 st st':St} {X0 F:Fp} {M A:QM} {Os:List Ob} {o:Ob} {xp cp mp l:Nat} {L:List (List Int)}
theorem Qk.wb(B:Qk st0 X0 st M Os){k:Nat}(hk:Os[k]? =some (eN F xp cp mp L l)):O8 st.h.get F xp cp mp L l:=B.at_ hk
theorem Qk.iu(B:Qk st0 X0 st ((xp,0,[.ptr cp 0 0,.ptr mp 0 0])::M) (HT F cp L::o::Yr mp l false::Os)):Qk st0 X0 st M (eN F xp cp mp L l::o::Os):=by
 have d1:=(List.pairwise_cons.1 B.dj).1 (Yr mp l false) Q4;have d2:=B.djM (HT F cp L) Q4 xp 0 _ (List.mem_cons_self ..);have d3:=B.djM (Yr mp l false) Q4 xp 0 _ (List.mem_cons_self ..);have B1:=B.G5 (Os':=HT F cp L::Yr mp l false::o::Os) (.cons _ (.swap ..));have B2:=Qk.freeze (R:=[(xp,0,[.ptr cp 0 0,.ptr mp 0 0])]) (o:=Xs [(xp,0,[.ptr cp 0 0,.ptr mp 0 0])]) (M:=M) B1 (fun c m x h=>B.row c m x (by rw[List.mem_singleton.1 h];exact List.mem_cons_self ..)) (fun c hc=>hc)
 have B3:=B2.join (o:=⟨fun c=>c=xp∨F c,fun h=>Qx h xp 0 [.ptr cp 0 0,.ptr mp 0 0]∧ZG h F cp L,fun h h' e H=>⟨H.1.frame (e xp (.inl rfl)),H.2.frame fun c hc=>e c (.inr hc)⟩⟩) (fun h1 h2=>⟨h1 xp 0 _ (List.mem_singleton.2 rfl),h2⟩) (fun c hc=>by
  rcases hc with hc|hc
  ·exact .inl ⟨0,_,by rw[hc];exact List.mem_singleton.2 rfl⟩
  ·exact .inr hc)
 refine B3.join (fun h1 h2=>⟨h1.2,h2,h1.1,fun h=>d1 mp h rfl,d2,fun e=>d3 e⟩) (fun c hc=>?_);rcases hc with hc|hc|hc
 ·exact .inl (.inr hc)
 ·exact .inr hc
 ·exact .inl (.inl hc)
theorem Qk.yO(B:Qk st0 X0 st M Os)(q:Qt st st')(hA: ∀c m l,(c,m,l)∈A→Qx st'.h.get c m l∧st.n≤c)(hn:(A.map Prod.fst).Nodup):Qk st0 X0 st' (M++(A++[])) Os:=by
 have B1:=B.quiet q;refine⟨B1.fresh,B1.le,fun c m l hm=>?_,?_,fun c m l hm=>?_,B1.obj,B1.hi,B1.dj,fun o ho c m l hm hc=>?_,B1.J9⟩
 ·rw[List.append_nil]at hm;rcases List.mem_append.1 hm with hm|hm
  ·exact B1.row c m l hm
  ·exact(hA c m l hm).1
 ·rw[List.append_nil,List.map_append];refine List.nodup_append.2 ⟨B.nodup,hn,fun x hx y hy e=>?_⟩;subst e;obtain⟨⟨c,m,l⟩,k1,rfl⟩:=List.mem_map.1 hx;obtain⟨⟨c',m',l'⟩,k2,k3⟩:=List.mem_map.1 hy;simp only at k3;subst k3;have:=(B.row _ m l k1).lt B.fresh;have:=(hA _ m' l' k2).2;omega
 ·rw[List.append_nil]at hm;rcases List.mem_append.1 hm with hm|hm
  ·exact B1.lo c m l hm
  ·exact .inl (Nat.le_trans B.le (hA c m l hm).2)
 ·rw[List.append_nil]at hm;rcases List.mem_append.1 hm with hm|hm
  ·exact B1.djM o ho c m l hm hc
  ·have:=(B.hi o ho c hc).1;have:=(hA c m l hm).2;omega
end
theorem AN.vk{n0:Nat}{A:QM}{kr:AV}{l:List Int}(hA:AN n0 A kr l):zF (Xs A).F kr:=fun c m o n y e=>by
 cases hA with
 |none=>cases e
 |own h1 h2=>injection e with e1 e2;subst e1;exact⟨_,_,List.mem_cons_self ..⟩
theorem AN.nodup{n0:Nat}{A:QM}{kr:AV}{l:List Int}(hA:AN n0 A kr l):(A.map Prod.fst).Nodup:=by cases hA<;>simp
theorem eo{h:Hp}{c m:Nat}{z:Int}(r:Qx h c m [.int .i64 z]):Jg h [] 1 (zC [z]) (.sl c m 0 1 1):=Jg.own (ls:=zC [z]) r (EW _) Q4 (by simp[zC])
theorem Nw{P:Program}{G:Env}{K:List (Nat×AV)}{st:St}{t yt:TypeId}{x y:Operand}{a:Nat}(hx:QT G K x=some (.int .i64 (a:Nat)))(hy:QT G K y=some (.int .i64 1))(h1:1≤a)(hb:a≤9223372036854775807):U2 P G K (.binOp .sub t x y yt) st (.int .i64 (a-1:Nat)) st:=by
 rw[show((a-1:Nat):Int)=((a:Nat):Int)-1 by omega];exact jT hx hy Qc Qc
theorem eu(L:List (List Int))(q:List Int):L.length≤(F6 L q).length:=by
 unfold F6;split
 ·exact Nat.le_refl _
 ·simp
theorem ud{L:List (List Int)}{q:List Int}{n:Nat}(h:n≤L.length):(F6 L q).take n=L.take n:=by
 unfold F6;split
 ·rfl
 ·rw[List.take_append_of_le_length h]
theorem Uu{α:Type}{L L2:List α}{n:Nat}(h:L2.take n=L.take n)(hn:n≤L.length):n≤L2.length:=by
 have:=congrArg List.length h;rw[List.length_take,List.length_take]at this;omega
theorem Vn{α:Type}{L L2:List α}{i:Nat}{q:α}(h:L2.take (i+1)=L.take (i+1))(hq:L[i]? =some q):L2[i]? =some q:=by
 have e:=congrArg (fun l=>l[i]?) h;simp only[List.getElem?_take]at e
 simpa [hq]using e
theorem V1.F7{α:Type}{δ:α→Nat→α}{s0:α}{K:Nat}{L:List α}{rows:List (List Int)}{row:List Int}(H:V1 δ s0 K L rows row)(hL:L.length≤400):X5 row:=fun z hz=>by
 have:=H.bound z (List.mem_append_right _ hz)
 constructor<;>omega
theorem xE{st:St}(hf:Qi st){F:Fp}{xp cp mp l:Nat}(H:O8 st.h.get F xp cp mp [] l)(hi: ∀c,CE F xp mp c→c<st.n)(hl1:1≤l)(hl:l≤9223372036854775807){c0 m0:Nat}(hq:Qx st.h.get c0 m0 [.int .i64 0])(hX: ¬CE F xp mp c0):
  ∃v st',Jf 37 [.ptr xp 0 0,.sl c0 m0 0 1 1] st v st'∧v=.tup [.int .i64 0,.bool true]∧ ∃F',O8 st'.h.get F' xp cp mp [[0]] (l-1)∧Ee st st' (CE F xp mp) (CE F' xp mp)∧UQ (CE F xp mp) st st':=by
 obtain⟨v,st',h1,h2,F',h3⟩:=jR hf H hi Q8 hl1 hl (q:=[0]) (eo hq) (fun c m o n y e=>by injection e with e1;subst e1;exact hX) (fun z hz=>by rw[List.mem_singleton.1 hz];decide) Q8 (List.pairwise_singleton _ _);exact⟨v,st',h1,h2,F',h3⟩
theorem qP{st:St}(hf:Qi st){F:Fp}{acc:List Bool}(hD:UX st F dp ⟨a.tr,acc,a.nx⟩)(hn:acc.length=a.n){q:List Int}{kq:AV}(hq:Jg st.h.get [] 1 (zC q) kq)(hs:F9 a.n q)(hm:a.n≤400):
  ∃v st',Jf 42 [kq,.fn 26 [.ptr dp 0 0] []] st v st'∧v=.bool (anyS acc q)∧Qt st st':=by
 refine Ix (fa:=[.ptr dp 0 0]) (fc:=[]) (p:=fun z=>I8 acc z.toNat) hf hq (by have:=hs.len;omega) fun x hx st1 q1=>?_;have hb:=hs.2 x hx;have:=VG q1.fresh (hD.q q1) (s:=x.toNat) (by show x.toNat<acc.length;omega);rw[Int.toNat_of_nonneg hb.1]at this;exact this
def fP(st st':St)(a:Au)(k:Nat)(acc:List Bool)(mp l:Nat)(v:AV):Prop:=
 (∃dp2 F2 L m,v=.tup [.ptr dp2 0 0,.int .i64 0]∧UX st' F2 dp2 m∧ZP st st' F2∧m.tr=a.tr-1∧UA (JY a k) [0] (anyS acc) L m∧Qx st'.h.get mp 0 [.int .i64 (l-L.length:Nat),.bool false])∨
 (v=.tup [.nilp,.int .i64 8]∧ ∃L:List (List Int),L.length=401∧L.Nodup∧(∀(Q:List Int→Prop),Q [0]→(∀s c,Q s→c<2^(a.tr-1)→Q (JY a k s c))→ ∀s∈L,Q s)∧Qx st'.h.get mp 0 [.int .i64 (l-401:Nat),.bool false])

theorem D3{st:St}(hf:Qi st){F:Fp}(hD:UX st F dp a){k:Nat}(hk:k<a.tr){mp l:Nat}(hm:Qx st.h.get mp 0 [iN l,.bool false])(hdm: ¬F mp)(hl1:401≤l)(hl:l≤9223372036854775807): ∃v st',Jf 12 [.ptr dp 0 0,iN k,.ptr mp 0 0] st v st'∧(∃YE,EO a k YE∧fP st st' a k YE mp l v)∧UQ (fun c=>c=mp) st st':=by
 have wf:=hD.wf;have htr:=wf.tr;have hmo:=wf.most;have hp6:=JG (T:=a.tr-1) Qc;have hp0:0<2^(a.tr-1):=Nat.two_pow_pos _;have hdF: ∀c,F c→ ¬(Yr mp l false).F c:=fun c hc e=>hdm ((show c=mp from e)▸hc);have B:=Qk.UK (o:=Yr mp l false) hf hm (fun c hc=>(show c=mp from hc)▸hm.lt hf);refine J7 Tryz.func12 Tryz.ntmps12 fun T K=>?_;have M:=B.mem;refine Qb 4 K M fun _ K=>?_;replace B:=B.step M;obtain⟨v24,st24,ev24,dpc,Fc,YE,rfl,hcl,hDc,nfc,q24⟩:=My B.fresh (hD.OB B.JM hdF) hk;refine p1 K (Qf rfl ev24) fun _ K=>?_;replace B:=B.new (o:=Iv Fc dpc ⟨a.tr,YE,a.nx⟩) q24 hDc.at_ nfc;have M:=B.mem;refine Qb 7 K M fun _ K=>?_;refine Uq K rfl (fun h28=>?_) fun h28=>?_
 ·have hb28:=h28
  replace h28: ¬(0=0):=by first|exact of_decide_eq_false h28|exact yF h28|simpa using h28
  exfalso;omega
 have hb28:=h28
 replace h28:(0=0):=by first|exact of_decide_eq_true h28|exact yT h28|simpa using h28
 refine Qb 0 K M fun _ K=>?_;replace B:=B.step M;obtain⟨v30,st30,ev30,cp,rfl,hPn,q30⟩:=xW B.fresh;refine p1 K (Qf rfl ev30) fun _ K=>?_;obtain⟨Fq,hPn,hnp⟩: ∃Fq,ZG _ Fq cp []∧ZP _ _ Fq:=⟨_,hPn,fun c hc=>hc⟩;replace B:=B.new (o:=HT Fq cp []) q30 hPn hnp;have M:=B.mem;refine au 4 K M ?_;intro c33 _ _ K _ M;replace B:=(B.step M).iu;have M:=B.mem;refine au 2 K M ?_;intro c36 _ _ K _ M;replace B:=B.step M;obtain⟨v37,st37,ev37,rfl,F1,hM1,mf1,Q1⟩:=xE B.fresh (B.wb (k:=0) rfl) (B.Y3 (k:=0) rfl) Qc hl (B.row c36 0 _ Q4) (B.djM _ (List.mem_cons_self ..) c36 0 _ (List.mem_cons_self ..));refine p1 K (Qf rfl ev37) fun _ K=>?_;replace B:=B.call (k:=0) (o':=eN F1 c33 cp mp [[0]] (l-1)) rfl Q1 hM1 mf1;have M:=B.mem;refine Qb 9 K M fun _ K=>?_;refine oQ K M (X1 M.fresh (hD.OB (B.step M).JM hdF)) rfl rfl fun _ _ K M=>?_;refine p1 K (Nw rfl rfl Qc Qc) fun _ K=>?_;refine au 4 K M ?_;intro c13 _ _ K _ M;replace B:=B.step M;obtain⟨v47,st47,ev47,nau,q47⟩:=Oi B.fresh (hD.OB B.JM hdF);refine p1 K (Qf rfl ev47) fun _ K=>?_;obtain⟨kato,knto,vsto,Ato,Fto,rfl,hAto,B⟩:=B.KE q47 nau;replace B:=B.less (List.sublist_append_left _ _);have hnto:Qr knto=true:=(X3.rd (B.at_ (k:=0) rfl)).cell;have M:=B.mem;refine p1 K (Ap rfl ((Zw _).trans (Qd Q7 rfl))) fun _ K=>?_;refine Qb 1 K M fun _ K=>?_;replace B:=(B.step M).V9;have M:=B.mem;refine Qb 1 K M fun _ K=>?_;refine QX (fun mm1 T st9=> ∃(i:Nat) (L:List (List Int)) (Fk:Fp) (LLr:List (List Int)) (vsr:List AV) (Fr:Fp) (ka:AV) (Aa:QM) (kr:AV) (Ar:QM),mm1=400-i∧QS [(1,iN k),(8,.ptr dpc 0 0),(10,.ptr c33 0 0),(13,.ptr c13 0 0),(14,knto),(15,iN i)] T∧Qk st (Yr mp l false).F st9 ((c13,0,[iZ (a.tr-1:Nat),ka,kr])::(c36,0,[iZ 0])::(Aa++(Ar++[]))) [EX Fr vsr LLr,Ce Fto knto vsto a.nx,eN Fk c33 cp mp L (l-L.length),Iv Fc dpc ⟨a.tr,YE,a.nx⟩]∧V1 (JY a k) [0] (2^(a.tr-1)) L LLr []∧LLr.length=i∧i≤L.length∧L.length≤400∧Acc 0 1 Aa ka (bC ((L.take i).map (anyS YE)))∧YS Ar kr vsr) (fun mm1 T st9 hI=>?_) _ _ _ ⟨0,[[0]],_,[],[],_,.nils,[],.nils,[],rfl,(K.sub rfl),(B.step M).less (.refl _),(V1.start _ _ _),rfl,Q8,Q8,.none,.none⟩;obtain⟨i,L,Fk,LLr,vsr,Fr,ka,Aa,kr,Ar,rfl,K,B,hP,hLL,hiL,hL,hAa,hAr⟩:=hI;have M:=B.mem;have hall: ∀s∈L,F9 a.n s:=fun s hs=>hP.all (Q:=F9 a.n) (F9.zero wf.pos) (fun s c hs hc=>hs.step wf hk hc) (Nat.two_pow_pos _) hs;refine Qb 4 K M fun _ K=>?_;refine p1 K (Qg rfl (Qw ((B.step M).wb (k:=2) rfl).row.Jb (Qd YW rfl))) fun _ K=>?_;refine oQ K M (LA (L:=L) M.fresh ((B.step M).wb (k:=2) rfl).pool) rfl rfl fun _ _ K M=>?_;refine Qb 1 K M fun _ K=>?_;refine Jt K rfl (fun h55=>?_) fun h55=>?_
 ·refine Qb 3 K M fun _ K=>?_;refine p1 K (Qg rfl (Qw ((B.step M).wb (k:=2) rfl).row.Jb (Qd YW rfl))) fun _ K=>?_;refine Qb 1 K M fun _ K=>?_;obtain⟨q,hqi⟩: ∃q,L[i]? =some q:=⟨_,List.getElem?_eq_getElem Qc⟩;have hqS:=hall q (List.mem_of_getElem? hqi);obtain⟨v63,st63,ev63,kg,rfl,nrg,q63⟩:=vo M.fresh ((B.step M).wb (k:=2) rfl).pool (fun s hs=>Nat.le_trans (hall s hs).len Qc) (fun c hc=>(B.step M).Y3 (k:=2) rfl c (.inl hc)) ((i:Nat):Int);refine p1 K (Qf rfl ev63) fun _ K=>?_;rw[T4 Qc (show L[((i:Nat):Int).toNat]? =some q from hqi)]at nrg;obtain⟨Ag,hAg,M⟩:=M.Yx q63 nrg;replace hAg:=hAg.z0;simp only[XB]at M;refine Qb 4 K M fun _ K=>?_;refine p1 K (US (n:=(a.tr-1)) rfl rfl Qc) fun _ K=>?_;refine Qb 1 K M fun _ K=>?_;refine QX (fun mm2 T st9=> ∃(c:Nat) (L2:List (List Int)) (F2:Fp) (row:List Int) (kw:AV) (Aw:QM),mm2=2^(a.tr-1)-c∧QS [(1,iN k),(8,.ptr dpc 0 0),(10,.ptr c33 0 0),(13,.ptr c13 0 0),(14,knto),(15,iN i),(16,v63),(17,kw),(66,iZ (2^(a.tr-1):Nat)),(67,iN c)] T∧Qk st (Yr mp l false).F st9 ((c13,0,[iZ (a.tr-1:Nat),ka,kr])::(c36,0,[iZ 0])::(Aa++(Ar++(Ag++(Aw++[]))))) [EX Fr vsr LLr,Ce Fto knto vsto a.nx,eN F2 c33 cp mp L2 (l-L2.length),Iv Fc dpc ⟨a.tr,YE,a.nx⟩]∧V1 (JY a k) [0] (2^(a.tr-1)) L2 LLr row∧row.length=c∧c≤2^(a.tr-1)∧L2.length≤400∧L2.take (i+1)=L.take (i+1)∧Acc 0 1 Aw kw (zC row)) (fun mm2 T st9 hI=>?_) _ _ _ ⟨0,L,Fk,[],.nils,[],rfl,(K.sub rfl),(B.step M).less (.refl _),hP,rfl,(Nat.zero_le _),hL,rfl,.none⟩;obtain⟨c,L2,F2,row,kw,Aw,rfl,K,B,hP2,hrow,hcK,hL2,htk,hAw⟩:=hI;have M:=B.mem;refine Qb 1 K M fun _ K=>?_;refine Jt K rfl (fun h68=>?_) fun h68=>?_
  ·refine Qb 7 K M fun _ K=>?_;replace B:=B.step M;obtain⟨v76,st76,ev76,kx,Ax,rfl,hAx,hrx,q76⟩:=jQ (c:=c) (q:=q) B.fresh wf (X3.r (B.at_ (k:=1) rfl)) (Mem.Ys (L:=((c13,0,[iZ (a.tr-1:Nat),ka,kr])::(c36,0,[iZ 0])::(Aa++(Ar++[])))) (B:=(Aw++[])) (Mem.cast M Ux) hAg) hqS.2 (Nat.le_trans hqS.len wf.most) hk Qc;refine p1 K (Qf rfl ev76) fun _ K=>?_;replace B:=B.yO q76 (fun c m l h=>⟨hrx c m l h,hAx.ge h⟩) hAx.nodup;replace B:=B.cast (M':=((c13,0,[iZ (a.tr-1:Nat),ka,kr])::(c36,0,[iZ 0])::(Aa++(Ar++(Ag++(Aw++(Ax++[]))))))) Ux;have M:=B.mem;replace B:=B.step M;have hq2S:=hqS.step wf hk (c:=c) Qc;have hge:=eu L2 (JY a k q c);have hle:=xS L2 (JY a k q c);have hPid:=hP2.id Qc (show L2[LLr.length]? =some q by rw[hLL];exact Vn htk hqi);rw[hrow]at hPid;obtain⟨v77,st77,ev77,rfl,F3,hM3,mf3,Q3⟩:=jR B.fresh (B.wb (k:=2) rfl) (B.Y3 (k:=2) rfl) hL2 Qc Qc (Mem.vR (L:=((c13,0,[iZ (a.tr-1:Nat),ka,kr])::(c36,0,[iZ 0])::(Aa++(Ar++(Ag++(Aw++[])))))) (B:=[]) (Mem.cast M Ux) hAx) (fun c m o n y e hc=>by obtain⟨m',l',hm'⟩:=hAx.vk c m o n y e;exact B.djM (eN F2 c33 cp mp L2 (l-L2.length)) Q4 c m' l' (by simp[hm']) hc) (hq2S.F7 wf.most) (Nat.le_trans hq2S.len Qc) hq2S.1;refine p1 K (Qf rfl ev77) fun _ K=>?_;rw[show l-L2.length-((F6 L2 (JY a k q c)).length-L2.length)=l-(F6 L2 (JY a k q c)).length by omega]at hM3;replace B:=B.call (k:=2) (o':=eN F3 c33 cp mp (F6 L2 (JY a k q c)) (l-(F6 L2 (JY a k q c)).length)) rfl Q3 hM3 mf3;have M:=B.mem;refine Qb 7 K M fun _ K=>?_;refine Uq K rfl (fun h81=>?_) fun h81=>?_
   ·have hb81:=h81
    replace h81: ¬(((F6 L2 (JY a k q c)).length:Int)≤400):=by first|exact of_decide_eq_false h81|exact yF h81|simpa using h81
    refine Qb 2 K M ?_;replace B:=B.step M
    have h401:(F6 L2 (JY a k q c)).length=401:=by omega
    have hmt:=(B.wb (k:=2) rfl).met;rw[h401]at hmt;exact⟨⟨YE,hcl,.inr ⟨rfl,_,h401,hPid.nodup,fun Q h0 hs s hm=>hPid.all h0 hs (Nat.two_pow_pos _) hm,hmt⟩⟩,B.JM⟩
   have hb81:=h81
   replace h81:(((F6 L2 (JY a k q c)).length:Int)≤400):=by first|exact of_decide_eq_true h81|exact yT h81|simpa using h81
   refine au 3 K M ?_;intro c84 _ _ K _ M;refine QZ (k2:=0) (L:=((c84,0,[iZ (MA L2 (JY a k q c):Nat)])::(c13,0,[iZ (a.tr-1:Nat),ka,kr])::(c36,0,[iZ 0])::(Aa++(Ar++(Ag++[]))))) (B:=(Ax++[])) K (Mem.cast M Ux) hAw QD rfl rfl rfl rfl (by rw[Qp];omega) rfl fun ks85 A85 _ _ K hA85 M=>?_;simp only[XB]at M;refine Qb 3 K M fun _ K=>?_;exact⟨_,Qc,c+1,_,F3,(row++[((MA L2 (JY a k q c):Nat):Int)]),ks85,A85,rfl,(K.sub rfl),(B.step M).less (.cons _ (.cons_cons _ (.cons_cons _ (List.Sublist.append_left (List.Sublist.append_left (List.Sublist.append_left (List.Sublist.append_left (List.nil_sublist _) _) _) _) _)))),hPid,(by rw[List.length_append,hrow];rfl),Qc,Qc,(by rw[ud (Uu htk Qc),htk]),(by rw[JW];exact hA85)⟩
  refine QK ?_;show W _ _ _ _ _ _ _;refine Qb 1 K M fun _ K=>?_;refine p1 K (Qg rfl (M.load (k:=0) rfl (Qd Q7 rfl))) fun _ K=>?_;refine Qb 1 K M fun _ K=>?_;refine Xo K M QQ Ut rfl ((JB rfl hAw.cell rfl).trans rfl) (Qa hAw.cell Qz) rfl rfl fun c90 _ _ K M=>?_;refine YL (k2:=0) (L:=((c90,0,[kw])::(c13,0,[iZ (a.tr-1:Nat),ka,kr])::(c36,0,[iZ 0])::(Aa++[]))) (B:=(Ag++(Aw++[]))) K (Mem.cast M Ux) hAr QQ rfl rfl rfl (by have:=Zl.ln ((B.step M).at_ (k:=0) rfl);omega) rfl fun ks91 A91 _ _ K hA91 _ M=>?_;simp only[XB]at M;refine Qb 1 K M fun _ K=>?_;refine Jk (k:=1) K M rfl rfl rfl Uv (hA91.cell) rfl fun _ M=>?_;refine Qb 0 K M fun _ K=>?_;refine QA (l:=[(2,0),(3,0),(4,0),(5,0),(0,0),(1,1),(6,0),(7,0),(8,0),(9,0)]) (by kernel_rfl) ?_;have Mq:=M;refine Jo 2 K M fun _ K=>?_;refine q1 rfl K (X9 rfl rfl) fun _ K=>?_;obtain⟨v98,st98,ev98,rfl,q98⟩:=qP M.fresh ((B.step M).qS (k:=3) rfl) hcl.len (Mem.Ys (L:=((c90,0,[kw])::(c13,0,[iZ (a.tr-1:Nat),ka,ks91])::(c36,0,[iZ 0])::(Aa++(A91++[])))) (B:=(Aw++[])) (Mem.cast M Ux) hAg) hqS wf.most;refine qA rfl K (Qf rfl ev98) fun _ K=>?_;replace M:=M.quiet q98;have Mp:=Mq;have Mq:=M;refine Jo 1 K M fun _ K=>?_;refine Ju rfl K rfl (M.load (k:=1) rfl (Qd Um rfl)) (Mp.load (k:=1) rfl (Qd Um rfl)) (JI (Ub hAa.len)) rfl Q8 fun _ K=>?_;refine Xp rfl K M J3 Vk rfl rfl rfl rfl rfl fun c99 _ _ K M=>?_;refine ZT (k2:=0) (L:=[(c99,0,[.bool (anyS YE q)]),(c90,0,[kw]),(c13,0,[iZ (a.tr-1:Nat),ka,ks91]),(c36,0,[iZ 0])]) (B:=(A91++(Ag++(Aw++[])))) rfl K M hAa J3 rfl rfl rfl rfl (by rw[Up,List.length_map,List.length_take];omega) rfl fun ks100 A100 _ _ K hA100 M=>?_;have Mp:=Mq;have Mq:=M;refine Jo 1 K M fun _ K=>?_;refine Ze (k:=2) rfl K M rfl rfl rfl UG (hA100.cell) rfl fun _ M=>?_;have Mp:=Mq;have Mq:=M;refine QF ?_;show W _ _ _ _ _ _ _;refine Qb 3 K M fun _ K=>?_;replace B:=B.step M;obtain⟨Fr,B⟩:=Qk.ZD (L:=((c99,0,[.bool (anyS YE q)])::(c90,0,[kw])::(c13,0,[iZ (a.tr-1:Nat),ks100,ks91])::(c36,0,[iZ 0])::(A100++(A91++(Ag++[]))))) (B:=[]) (B.cast Ux) hAw (hP2.F7 hL2);replace B:=B.cast (M':=((c99,0,[.bool (anyS YE q)])::(c90,0,[kw])::(c13,0,[iZ (a.tr-1:Nat),ks100,ks91])::(c36,0,[iZ 0])::(A100++(A91++(Ag++[]))))) Ux;have M:=B.mem;have hi2:=Uu htk Qc
  have htq:L.take (i+1)=L.take i++[q]:=by rw[List.take_add_one,hqi];rfl
  exact⟨_,Qc,i+1,L2,F2,(LLr++[row]),_,_,ks100,A100,ks91,A91,rfl,(K.sub rfl),(B.step M).less (.cons _ (.cons _ (.cons_cons _ (.cons_cons _ (List.Sublist.append_left (List.Sublist.append_left (List.nil_sublist _) _) _))))),(hP2.whole Qc),(by rw[List.length_append,hLL];rfl),hi2,hL2,(by rw[htk,htq,List.map_append,XZ];exact hA100),hA91⟩
 refine QK ?_;show W _ _ _ _ _ _ _;refine Qb 1 K M fun _ K=>?_;replace B:=B.step M;have hti:L.take i=L:=List.take_of_length_le Qc;rw[hti]at hAa;have hMd:=hP.made (p:=anyS YE) (m:=⟨a.tr-1,L.map (anyS YE),LLr⟩) (by show LLr.length=_;omega) rfl (by show a.tr-1≤6;omega) hL;obtain⟨Fo,B⟩:=Qk.B6 (L:=((c13,0,[iZ (a.tr-1:Nat),ka,kr])::(c36,0,[iZ 0])::(Aa++[]))) (B:=[]) (B.cast Ux) hAr;replace B:=B.cast (M':=((c13,0,[iZ (a.tr-1:Nat),ka,kr])::(c36,0,[iZ 0])::(Aa++[]))) Ux;have M:=B.mem;obtain⟨v103,st103,ev103,dp2,F2,rfl,hD2,nf2,q103⟩:=Ed (a:=⟨a.tr-1,L.map (anyS YE),LLr⟩) B.fresh hMd.wf (Mem.Ys (L:=[(c13,0,[iZ (a.tr-1:Nat),ka,kr]),(c36,0,[iZ 0])]) (B:=[]) M hAa) (X3.r (B.at_ (k:=0) rfl));refine p1 K (Qf rfl ev103) fun _ K=>?_;have hle0:=B.le;replace B:=B.quiet q103;have M:=B.mem;refine Qb 4 K M ?_;exact⟨⟨YE,hcl,.inl ⟨dp2,F2,L,_,rfl,hD2,fun c hc=>⟨Nat.le_trans hle0 (nf2 c hc).1,(nf2 c hc).2⟩,rfl,hMd,(B.wb (k:=2) rfl).met⟩⟩,B.JM⟩
end
section

theorem E7{α:Type}{Q:α→Prop}{l:List α}{i:Nat}{x:α}(h: ∀(j:Nat) (x:α),j<i→l[j]? =some x→Q x)(hi:l[i]? =some x)(hx:Q x): ∀(j:Nat) (x:α),j<i+1→l[j]? =some x→Q x:=fun j y hj hy=>by
 rcases Nat.lt_succ_iff_lt_or_eq.1 hj with h1|h1
 ·exact h j y h1 hy
 ·subst h1;rw[hi]at hy
  injection hy with hy
  exact hy▸hx
end
section

theorem x8{k c u:Nat}(hu:u≤1):(c % 2^k+u *2^k)|||c/2^k *2^(k+1)=Zq k c u:=by rw[←BH hu,jB hu]
theorem wL{c k:Nat}(h:c≤64):c/2^k *2^(k+1)≤9223372036854775807:=by
 have h1:c/2^k *2^k≤c:=Nat.div_mul_le_self c (2^k);rw[Nat.pow_succ,←Nat.mul_assoc];omega

end
section
variable {st:St}

theorem Qk.add{st0:St}{X0:Fp}{M:QM}{Os:List Ob}{o:Ob}(B:Qk st0 X0 st M Os)(h:o.H st.h.get)(hi: ∀c,o.F c→c<st.n∧st0.n≤c)(hd: ∀p∈Os,∀c,o.F c→ ¬p.F c)(hM: ∀c m l,(c,m,l)∈M→ ¬o.F c):Qk st0 X0 st M (o::Os):=by
 refine⟨B.fresh,B.le,B.row,B.nodup,B.lo,fun p hp=>?_,fun p hp c hc=>?_,List.pairwise_cons.2 ⟨hd,B.dj⟩,fun p hp c m l hm=>?_,B.J9⟩
 ·rcases List.mem_cons.1 hp with rfl|hp
  ·exact h
  ·exact B.obj p hp
 ·rcases List.mem_cons.1 hp with rfl|hp
  ·exact⟨(hi c hc).1,.inl (hi c hc).2⟩
  ·exact B.hi p hp c hc
 ·rcases List.mem_cons.1 hp with rfl|hp
  ·exact hM c m l hm
  ·exact B.djM p hp c m l hm
theorem Qk.Zt{st0 st':St}{X0:Fp}{M:QM}{Os:List Ob}{o om om':Ob}{k:Nat}(B0:Qk st0 X0 st M Os)(hk:Os[k]? =some om)(hF:om'.F=om.F)(B:Qk st0 X0 st' M (Os.set k om'))(h:o.H st'.h.get)(hn:ZP st st' o.F):Qk st0 X0 st' M (o::Os.set k om'):=by
 refine B.add h (fun c hc=>⟨(hn c hc).2,Nat.le_trans B0.le (hn c hc).1⟩) (fun p hp c hc hpc=>?_) (fun c m l hm hc=>?_)
 ·have h1:=(hn c hc).1;rcases List.mem_or_eq_of_mem_set hp with hp|rfl
  ·have:=(B0.hi p hp c hpc).1;omega
  ·rw[hF]at hpc;have:=B0.Y3 hk c hpc;omega
 ·have h1:=(hn c hc).1;have:=(B0.row c m l hm).lt B0.fresh;omega
theorem aP{w:List Int}{K:Nat}(h: ∀c∈w,0≤c∧c<((K:Nat):Int)): ∃wn,w=zN wn∧X4 K wn:=by
 refine⟨w.map Int.toNat,?_,fun c hc=>?_⟩
 ·unfold zN;rw[List.map_map];refine(List.map_id w).symm.trans (List.map_congr_left fun c hc=>?_);exact(Int.toNat_of_nonneg (h c hc).1).symm
 ·obtain⟨z,hz,rfl⟩:=List.mem_map.1 hc;have:=h z hz;omega
theorem UC{st':St}{F:Fp}(h: ∀c,F c→c<st'.n):Ee st st' F F:=fun c hc=>⟨.inl hc,h c hc⟩

end
section
variable {a:Au} {l:List (Nat×Nat)} {st:St}

def KZ(l:List (Nat×Nat)):List (List AV):=l.map fun p=>[.int .i64 (p.1:Nat),.int .i64 (p.2:Nat)]
theorem YN(l:List (Nat×Nat)):(KZ l).length=l.length:=by simp[KZ]
theorem El{i:Nat}{p:Nat×Nat}(h:l[i]? =some p):(KZ l)[i]? =some [.int .i64 (p.1:Nat),.int .i64 (p.2:Nat)]:=by rw[KZ,List.getElem?_map,h];rfl
theorem Dy(l:List (Nat×Nat))(p:Nat×Nat):KZ (l++[p])=KZ l++[[.int .i64 (p.1:Nat),.int .i64 (p.2:Nat)]]:=by simp[KZ]
theorem Sg(a b x y:Int):Y0 Tryz.prog 77 [.int .i64 a,.int .i64 b] [.int .i64 x,.int .i64 y]=Qj (Hk a x) (Qj (Hk b y) (some true) (some false)) (some false):=by kernel_rfl
theorem xO{G:Env}{K:List (Nat×AV)}{x y:Operand}{yt:TypeId}{p q:Nat×Nat}(hx:QT G K x=some (.agg [.int .i64 (p.1:Nat),.int .i64 (p.2:Nat)]))(hy:QT G K y=some (.agg [.int .i64 (q.1:Nat),.int .i64 (q.2:Nat)])):U2 Tryz.prog G K (.binOp .eql 77 x y yt) st (.bool (decide (p=q))) st:=
 UN hx hy (by
  show ob (Y0 Tryz.prog 77 _ _) (fun r=>some (AV.bool r))=_;rw[Sg,Yw,Yw]
  have e:p=q↔((p.1:Nat):Int)=((q.1:Nat):Int)∧((p.2:Nat):Int)=((q.2:Nat):Int):=by
   rw[Prod.ext_iff];omega
  by_cases h1:((p.1:Nat):Int)=((q.1:Nat):Int)<;>by_cases h2:((p.2:Nat):Int)=((q.2:Nat):Int)<;>simp[e,h1,h2,Q0,Qs,Ql])
def KS(l:List (Nat×Nat))(p:Nat×Nat)(l':List (Nat×Nat))(k:Nat)(was:Bool):Prop:=(was=true∧l'=l∧l[k]? =some p)∨(was=false∧p∉l∧l'=l++[p]∧k=l.length)
theorem KS.len{p:Nat×Nat}{l':List (Nat×Nat)}{k:Nat}{was:Bool}(H:KS l p l' k was):l.length≤l'.length∧l'.length≤l.length+1∧(was=true→l'.length=l.length)∧(was=false→l'.length=l.length+1):=by
 rcases H with⟨h1,h2,h3⟩|⟨h1,h2,h3,h4⟩
 ·subst h1 h2;exact⟨Nat.le_refl _,by omega,fun _=>rfl,fun h=>by cases h⟩
 ·subst h1 h3;simp
theorem KS.take{l:List (Nat×Nat)}{p:Nat×Nat}{l':List (Nat×Nat)}{k:Nat}{was:Bool}(H:KS l p l' k was){n:Nat}(hn:n≤l.length):l'.take n=l.take n:=by
 rcases H with⟨h1,h2,h3⟩|⟨h1,h2,h3,h4⟩
 ·rw[h2]
 ·rw[h3,List.take_append_of_le_length hn]
theorem KS.pr{b:Au}{K:Nat}{l':List (Nat×Nat)}{rows:List (List Int)}{row:List Int}(P:V1 (OA a b) (0,0) K l rows row)(hr:row.length<K){p:Nat×Nat}(hp:l[rows.length]? =some p){q:Nat×Nat}(hq:OA a b p row.length=q){k:Nat}{was:Bool}(H:KS l q l' k was):V1 (OA a b) (0,0) K l' rows (row++[((k:Nat):Int)]):=by
 subst hq;rcases H with⟨h1,h2,h3⟩|⟨h1,h2,h3,h4⟩
 ·rw[h2];exact P.J9 hr hp h3
 ·rw[h3,h4];exact P.new hr hp h2
theorem V1.jN{b:Au}(Wa:Zp a)(Wb:Zp b)(ht:b.tr=a.tr){rows:List (List Int)}{row:List Int}(P:V1 (OA a b) (0,0) (2^a.tr) l rows row): ∀p∈l,p.1<a.n∧p.2<b.n:=fun p hp=>
 P.all (Q:=fun p=>p.1<a.n∧p.2<b.n) ⟨Wa.pos,Wb.pos⟩ (fun s c h hc=>⟨Wa.UP h.1 hc,Wb.UP h.2 (by show c<2^b.tr;rw[ht];exact hc)⟩) (Nat.two_pow_pos _) hp
theorem Qk.CP{st0:St}{X0:Fp}{M A:QM}{Os:List Ob}{om:Ob}{F:Fp}{ka kn:AV}{vs:List AV}(B:Qk st0 X0 st (M++(A++[])) (Ce F kn vs a.nx::om::Os))(hX: ∀c,X0 c→om.F c)(hA:Acc 0 1 A ka (bC a.acc)):AP st0 st a (.agg [.int .i64 (a.tr:Nat),ka,kn]):=by
 have hn:=B.nodup;rw[List.append_nil,List.map_append]at hn;refine⟨ka,kn,vs,A,F,rfl,hA,B.at_ (k:=0) rfl,fun c hc=>⟨(B.L7 (k:=0) rfl c hc).resolve_right fun h=>(List.pairwise_cons.1 B.dj).1 om Q4 c hc (hX c h),B.Y3 (k:=0) rfl c hc⟩,(List.nodup_append.1 hn).2.1,fun c m l hm=>⟨B.row c m l (by simp[hm]),(B.lo c m l (by simp[hm])).resolve_right fun h=>B.djM om Q4 c m l (by simp[hm]) (hX c h),B.djM _ (List.mem_cons_self ..) c m l (by simp[hm])⟩⟩
theorem Ms(hf:Qi st){F:Fp}{kl:AV}(hO:UZ st.h.get F 2 kl (KZ l))(hi: ∀c,F c→c<st.n)(hl:l.length≤1000)(p:Nat×Nat): ∃v st',Jf 45 [kl,.agg [iZ (p.1:Nat),iZ (p.2:Nat)]] st v st'∧ ∃kl' k was l' F',v=.tup [kl',iN k,.bool was]∧UZ st'.h.get F' 2 kl' (KZ l')∧Ee st st' F F'∧UQ F st st'∧KS l p l' k was:=by
 have B:=Qk.UK (o:=Wz F 2 kl (KZ l)) hf hO hi;obtain⟨A,hA,B⟩:=B.BO;refine J7 Tryz.func45 Tryz.ntmps45 fun T K=>?_;have M:=B.mem;refine au 5 K M ?_;intro c3 _ _ K _ M;refine QX (fun mm1 T st9=> ∃(i:Nat),mm1=l.length-i∧QS [(0,kl),(3,.ptr c3 0 0),(7,iN i)] T∧Qk st (Wz F 2 kl (KZ l)).F st9 ((c3,0,[iZ (p.1:Nat),iZ (p.2:Nat)])::(A++[])) []∧i≤l.length∧(∀(j:Nat) (x:Nat×Nat),j<i→l[j]? =some x→x≠p)) (fun mm1 T st9 hI=>?_) _ _ _ ⟨0,rfl,(K.sub rfl),(B.step M).less (.refl _),(Nat.zero_le _),(fun j x hj=>absurd hj (Nat.not_lt_zero j))⟩;obtain⟨i,rfl,K,B,hil,hne⟩:=hI;have M:=B.mem;refine Qb 2 K M fun _ K=>?_;refine p1 K (Q5 Ul rfl rfl (hA.len.trans (congrArg some (YN _)))) fun _ K=>?_;refine Qb 1 K M fun _ K=>?_;refine Jt K rfl (fun h11=>?_) fun h11=>?_
 ·refine Qb 0 K M fun _ K=>?_;refine QA (l:=[(0,0),(1,0),(2,0),(3,0),(4,0),(5,0)]) (by kernel_rfl) ?_;refine Jo 2 K M fun _ K=>?_;obtain⟨pr16,hi16⟩:=Uy l i Qc;refine kf rfl rfl (Mem.Ys (L:=[(c3,0,[iZ (p.1:Nat),iZ (p.2:Nat)])]) (B:=[]) M hA) (El hi16) K Uo V4 rfl rfl fun _ _ _ _ K=>?_;refine Jo 1 K M fun _ K=>?_;refine q1 rfl K (xO (p:=pr16) (q:=p) rfl rfl) fun _ K=>QF ?_;show W _ _ _ _ _ _ _;refine Jt K rfl (fun h19=>?_) fun h19=>?_
  ·refine Qb 5 K M fun _ K=>?_;refine Jx ⟨.inr rfl,_,(Jw (Q6 K rfl) (Q6 K rfl) (Q6 K rfl)),?_⟩;replace B:=(B.step M).less (.cons _ (.refl _));obtain⟨F',B'⟩:=Qk.VK (M:=[]) (A:=A) B hA;exact⟨_,i,true,l,F',rfl,B'.at_ (k:=0) rfl,fun c hc=>⟨(B'.L7 (k:=0) rfl c hc).symm,B'.Y3 (k:=0) rfl c hc⟩,B'.JM,.inl ⟨rfl,rfl,by rw[hi16];first|(rw[←h19])|(rw[h19])⟩⟩
  refine Qb 3 K M fun _ K=>?_;exact⟨_,Qc,i+1,rfl,(K.sub rfl),(B.step M).less (.refl _),Qc,(E7 hne hi16 h19)⟩
 refine QK ?_;show W _ _ _ _ _ _ _;refine Jy ?_
 have hno:p∉l:=fun hm=>by obtain⟨j,hj⟩:=List.getElem?_of_mem hm;exact hne j p (by have:=(List.getElem?_eq_some_iff.1 hj).1;omega) hj rfl
 refine au 3 K M ?_;intro c24 _ _ K _ M;refine QZ (k2:=0) (L:=[(c24,0,[iZ (p.1:Nat),iZ (p.2:Nat)]),(c3,0,[iZ (p.1:Nat),iZ (p.2:Nat)])]) (B:=[]) K M hA XH rfl rfl rfl rfl (by rw[YN];omega) rfl fun ks25 A25 _ _ K hA25 M=>?_;refine Qb 1 K M fun _ K=>?_;refine p1 K (Q5 Ul rfl rfl (hA.len.trans (congrArg some (YN _)))) fun _ K=>?_;refine Qb 3 K M fun _ K=>?_;refine Jx ⟨.inr rfl,_,(Jw (Q6 K rfl) (Q6 K rfl) (Q6 K rfl)),?_⟩;replace B:=(B.step M).less (.cons _ (.cons _ (.refl _)));obtain⟨F',B'⟩:=Qk.VK (M:=[]) (A:=A25) (ls:=KZ (l++[p])) B (by rw[Dy];exact hA25);exact⟨_,l.length,false,l++[p],F',rfl,B'.at_ (k:=0) rfl,fun c hc=>⟨(B'.L7 (k:=0) rfl c hc).symm,B'.Y3 (k:=0) rfl c hc⟩,B'.JM,.inr ⟨rfl,fun hm=>hno hm,rfl,rfl⟩⟩
end
section
variable {F:Fp} {st:St}

theorem Mem.fN{h0:Hp}{n0:Nat}{X:List Nat}{st':St}{L A:QM}{kl ks:AV}{l l':List Int}(h:Mem h0 n0 X st (L++(A++[])))(hA:Acc n0 1 A kl (zC l))(q:Qt st st')(r:ED st st' 1 ks (zC l')∨(ks=kl∧l'=l)): ∃A2,Acc n0 1 A2 ks (zC l')∧Mem h0 n0 X st' (L++(A2++[])):=by
 rcases r with r|⟨rfl,rfl⟩
 ·obtain⟨A2,hA2,M⟩:=h.Yx q r;exact⟨A2,hA2,M.less (by rw[List.append_assoc];exact List.Sublist.append_left (List.sublist_append_right _ _) _)⟩
 ·exact⟨A,hA,h.quiet q⟩
theorem Rg{l:List Int}{x y:Int}:JP (l++[x,y])=Xl y (Xl x (JP l)):=by unfold JP;rw[List.foldl_append];rfl
theorem Mc: ∀l:List Int,(JP l).length≤l.length:=by
 have h: ∀(l:List Int) (o:List Int),(l.foldl (fun o x=>Xl x o) o).length≤o.length+l.length:=by
  intro l
  induction l with
  |nil=>intro o;simp
  |cons x l ih=>intro o;have:=ih (Xl x o);have:=Ig x o;rw[List.foldl_cons,List.length_cons];omega
 intro l;have:=h l []
 simpa [JP]using this
def Gp(L:List (List Int))(vs:List AV)(q:List Int)(kq:AV)(L':List (List Int))(vs':List AV)(k:Nat)(was:Bool):Prop:=(was=true∧L'=L∧vs'=vs∧L[k]? =some q)∨(was=false∧q∉L∧L'=L++[q]∧vs'=vs++[kq]∧k=L.length)
section
variable {L L':List (List Int)} {vs vs':List AV} {q:List Int} {kq:AV} {k:Nat} {was:Bool}
theorem Gp.len(H:Gp L vs q kq L' vs' k was):L.length≤L'.length∧L'.length≤L.length+1∧(was=true→L'.length=L.length)∧(was=false→L'.length=L.length+1):=by
 rcases H with⟨h1,h2,h3,h4⟩|⟨h1,h2,h3,h4,h5⟩
 ·subst h1 h2;exact⟨Nat.le_refl _,by omega,fun _=>rfl,fun h=>by cases h⟩
 ·subst h1 h3;simp
theorem Gp.take(H:Gp L vs q kq L' vs' k was){n:Nat}(hn:n≤L.length):L'.take n=L.take n:=by
 rcases H with⟨h1,h2,h3,h4⟩|⟨h1,h2,h3,h4,h5⟩
 ·rw[h2]
 ·rw[h3,List.take_append_of_le_length hn]
theorem Gp.pr{a:Au}{t K:Nat}{rows:List (List Int)}{row s:List Int}(P:V1 (JY a t) [0] K L rows row)(hr:row.length<K)(hs:L[rows.length]? =some s)(hq:JY a t s row.length=q)(H:Gp L vs q kq L' vs' k was):V1 (JY a t) [0] K L' rows (row++[((k:Nat):Int)]):=by
 subst hq;rcases H with⟨h1,h2,h3,h4⟩|⟨h1,h2,h3,h4,h5⟩
 ·rw[h2];exact P.J9 hr hs h4
 ·rw[h3,h5];exact P.new hr hs h2
theorem Qk.eK{st0:St}{X0:Fp}{A:QM}{Os:List Ob}{L0 B0:QM}{n0:Nat}(B:Qk st0 X0 st (L0++(A++B0)) (EX F vs L::Os))(H:Gp L vs q kq L' vs' k was)(hA:Acc n0 1 A kq (zC q))(hz:X5 q): ∃F',Qk st0 X0 st (L0++B0) (EX F' vs' L'::Os):=by
 rcases H with⟨h1,h2,h3,h4⟩|⟨h1,h2,h3,h4,h5⟩
 ·subst h2 h3;exact⟨F,B.less (List.Sublist.append_left (List.sublist_append_right _ _) _)⟩
 ·subst h3 h4;exact B.ZD hA hz
end
def LN(vs:List AV):List (List AV):=vs.map fun w=>[w]
theorem AS(vs:List AV):(LN vs).length=vs.length:=by simp[LN]
theorem Lq{vs:List AV}{i:Nat}{w:AV}(h:vs[i]? =some w):(LN vs)[i]? =some [w]:=by rw[LN,List.getElem?_map,h];rfl
theorem qW(vs:List AV)(w:AV):LN (vs++[w])=LN vs++[[w]]:=by simp[LN]
theorem Zl.rowAt{h:Hp}{vs:List AV}{L:List (List Int)}(H:Zl h F vs L){i:Nat}{s:List Int}{w:AV}(hs:L[i]? =some s)(hw:vs[i]? =some w):Jg h [] 1 (zC s) w:=by
 obtain⟨w',h1,h2,_⟩:=H.at_ _ _ hs
 rw[hw]at h1;injection h1 with h1;subst h1;exact h2
theorem KG(hf:Qi st){c k u:Nat}(hc:c≤64)(hk:k≤6)(hu:u≤1): ∃v st',Jf 153 [iN c,iN k,iN u] st v st'∧v=iZ (Zq k c u:Nat)∧Qt st st':=by
 have hp6:=JG hk;have hcm:c % 2^k≤c:=Nat.mod_le _ _;have huk:u *2^k≤64:=Nat.le_trans (Nat.mul_le_mul_right _ hu) Qc;have hp0:0<2^k:=Nat.two_pow_pos _;refine J7 Tryz.func153 Tryz.ntmps153 fun T K=>?_;have M:=Mem.start hf;refine Qb 3 K M fun _ K=>?_;refine p1 K (U8 (c:=((k:Nat):Int)) UR Uz rfl (IntWalk.u64_in _ Qc)) fun _ K=>p1 K (US (n:=k) rfl rfl Qc) fun _ K=>?_;refine Qb 1 K M fun _ K=>?_;refine p1 K (Td (k:=k) (c:=c) rfl rfl Qc Qc) fun _ K=>?_;refine Qb 4 K M fun _ K=>?_;refine p1 K (U8 (c:=((k:Nat):Int)) UR Uz rfl (IntWalk.u64_in _ Qc)) fun _ K=>p1 K (Ly (a:=u) (n:=k) rfl rfl Qc Qc) fun _ K=>p1 K (Nx (BH (k:=k) (c:=c) (u:=u) hu) rfl rfl Qc Qc) fun _ K=>?_;refine Qb 3 K M fun _ K=>?_;refine p1 K (jY (k:=k) (c:=c) rfl rfl Qc) fun _ K=>p1 K (Nx (x8 (k:=k) (c:=c) (u:=u) hu) rfl rfl Qc (wL Qc)) fun _ K=>?_;refine Qb 1 K M ?_;exact⟨rfl,M.qt⟩

theorem MD(hf:Qi st){a:Au}(wf:Zp a){ka kn:AV}{ls:List (List AV)}(hac:Qr ka=true)(hN:OC st.h.get a.nx kn ls){q:List Int}{kq:AV}(hq:Jg st.h.get [] 1 (zC q) kq)(hqs: ∀z∈q,0≤z∧z<((a.n:Nat):Int))(hql:q.length≤400){c k:Nat}(hk:k<a.tr)(hc:c<2^(a.tr-1)): ∃v st',Jf 129 [.agg [iZ (a.tr:Nat),ka,kn],kq,iN c,iN k] st v st'∧ ∃kr,v=kr∧ED st st' 1 kr (zC (JY a k q c))∧Qt st st':=by
 have htr:=wf.tr;have hlen:=wf.len;have hmo:=wf.most;have hc64:c≤64:=by have:=JG (T:=a.tr-1) Qc;omega
 have hu0:=IJ hk hc (u:=0) Q8;have hu1:=IJ hk hc (u:=1) Q8;have hp6:=JG htr;have hnc:=hN.r.cell;have hqc:=hq.cell;refine J7 Tryz.func129 Tryz.ntmps129 fun T K=>?_;have M:=Mem.start hf;refine Qb 0 K M fun _ K=>?_;refine Jv K M rfl (Qa rfl (Qa hac (Qa hN.r.cell Qz))) Q8 fun c4 _ _ K M=>?_;refine Qb 3 K M fun _ K=>?_;refine QX (fun mm1 T st9=> ∃(i:Nat) (ko:AV) (A:U9),mm1=q.length-i∧QS [(1,kq),(2,iN c),(3,iN k),(4,.ptr c4 0 0),(8,.nils),(9,ko),(10,iN i)] T∧Mem st.h.get st.n [] st9 ((c4,0,[iZ (a.tr:Nat),ka,kn])::(A++[]))∧i≤q.length∧Acc st.n 1 A ko (zC (JP (WK a k c (q.take i))))) (fun mm1 T st9 hI=>?_) _ _ _ ⟨0,.nils,[],rfl,(K.sub rfl),M.less (.refl _),(Nat.zero_le _),(by rw[List.take_zero];exact .none)⟩;obtain⟨i,ko,A,rfl,K,M,hiq,hA⟩:=hI
 have hsl:=Mc (WK a k c (q.take i));have hnl:=IQ a k c (q.take i);have htl:(q.take i).length≤i:=by rw[List.length_take];omega
 refine Qb 2 K M fun _ K=>?_;refine p1 K (Q5 Je rfl rfl (hq.len.trans (congrArg some (Qp _)))) fun _ K=>?_;refine Qb 1 K M fun _ K=>?_;refine Jt K rfl (fun h14=>?_) fun h14=>?_
 ·refine Qb 0 K M fun _ K=>?_;refine QA (l:=[(9,0),(10,0),(11,0),(0,0),(1,0),(2,1),(3,0),(4,0),(5,0),(6,1),(7,0),(8,1),(12,0),(13,0),(14,0),(15,0),(16,0),(17,0),(18,0)]) (by kernel_rfl) ?_;have Mq:=M;refine Jo 2 K M fun _ K=>?_;obtain⟨v29,st29,ev29,rfl,q29⟩:=KG M.fresh (c:=c) (k:=k) (u:=0) hc64 Qc Q8;refine qA rfl K (Qf rfl ev29) fun _ K=>?_;replace M:=M.quiet q29;have Mp:=Mq;have Mq:=M;refine Jo 2 K M fun _ K=>?_;refine Ju rfl K rfl (M.load (k:=0) rfl (Qd Q7 rfl)) (Mp.load (k:=0) rfl (Qd Q7 rfl)) (JI (Ub hN.len)) rfl Q8 fun _ K=>?_;refine Jo 2 K M fun _ K=>?_;obtain⟨y23,hi23⟩:=Uy q i Qc;have hb23:=hqs y23 (List.mem_of_getElem? hi23);obtain⟨z23,rfl⟩: ∃m:Nat,y23=((m:Nat):Int):=⟨_,(Int.toNat_of_nonneg hb23.1).symm⟩;obtain⟨x23,m23,f23,q23,_,la23,lo23,lp23,la'23,lo'23,lp'23⟩:=Jg.NF (Jg.mem M hq Q4) (Jg.mem Mp hq Q4) (i:=i) (cs:=_) (Jm hi23);refine q1 rfl K (Qe (j:=i) Qo (congrArg some q23) rfl (by rw[Qp];omega)) fun _ K=>?_;refine Ju rfl K rfl (lo23 _ 0 _ Qn rfl) (lo'23 _ 0 _ Qn rfl) (JI rfl) rfl Q8 fun _ K=>?_;obtain⟨s25,hi25⟩:=Uy a.nx z23 Qc;obtain⟨_,hc25,w25,rfl,hr25,hz25⟩:=hN.at_ _ _ hi25;have hw25:=wf.row s25 (List.mem_of_getElem? hi25);have hl25:s25.length=2^a.tr:=hw25.1;obtain⟨x25,m25,f25,q25,_,la25,lo25,lp25,la'25,lo'25,lp'25⟩:=Jg.NF (Jg.mem M hN.r Q4) (Jg.mem Mp hN.r Q4) (i:=z23) (cs:=_) hc25;refine q1 rfl K (Qe (j:=z23) QY (congrArg some q25) rfl (by rw[hN.ln];omega)) fun _ K=>?_;refine Ju rfl K rfl (lo25 _ 0 _ Ja rfl) (lo'25 _ 0 _ Ja rfl) (JI (Ub (hr25.len.trans (congrArg some (Qp _))))) rfl Q8 fun _ K=>?_;obtain⟨y30,hi30⟩:=Uy s25 ((Zq k c 0)) Qc;have hb30:=hw25.2 y30 (List.mem_of_getElem? hi30);obtain⟨z30,rfl⟩: ∃m:Nat,y30=((m:Nat):Int):=⟨_,(Int.toNat_of_nonneg hb30.1).symm⟩;refine dI rfl rfl (Jg.mem M hr25 Q4) (Jm hi30) K Qo Qn rfl rfl rfl fun _ _ _ _ K=>?_;have hi0:=Ig ((z30:Nat):Int) (JP (WK a k c (q.take i)));obtain⟨v32,st32,ev32,ko32,b32,rfl,had32,q32⟩:=PL M.fresh (Mem.Ys (L:=[(c4,0,[iZ (a.tr:Nat),ka,kn])]) (B:=[]) M hA) hA.Ti Qc z30 Qc;refine qA rfl K (Qf rfl ev32) fun _ K=>?_;obtain⟨A32,hA32,M⟩:=Mem.fN (L:=[(c4,0,[iZ (a.tr:Nat),ka,kn])]) (A:=A) M hA q32 had32;simp only[XB]at M;have Mp:=Mq;have Mq:=M;refine Jo 4 K M fun _ K=>?_;refine QF ?_;show W _ _ _ _ _ _ _;refine QA (l:=[(9,0),(10,0),(11,0),(0,0),(1,0),(2,1),(3,0),(4,0),(5,0),(6,1),(7,0),(8,1),(12,0),(13,0),(14,0),(15,0),(16,0),(17,0),(18,0)]) (by kernel_rfl) ?_;have Mq:=M;refine Jo 2 K M fun _ K=>?_;obtain⟨v47,st47,ev47,rfl,q47⟩:=KG M.fresh (c:=c) (k:=k) (u:=1) hc64 Qc Q8;refine qA rfl K (Qf rfl ev47) fun _ K=>?_;replace M:=M.quiet q47;have Mp:=Mq;have Mq:=M;refine Jo 2 K M fun _ K=>?_;refine Ju rfl K rfl (M.load (k:=0) rfl (Qd Q7 rfl)) (Mp.load (k:=0) rfl (Qd Q7 rfl)) (JI (Ub hN.len)) rfl Q8 fun _ K=>?_;refine Jo 2 K M fun _ K=>?_;obtain⟨x41,m41,f41,q41,_,la41,lo41,lp41,la'41,lo'41,lp'41⟩:=Jg.NF (Jg.mem M hq Q4) (Jg.mem Mp hq Q4) (i:=i) (cs:=_) (Jm hi23);refine q1 rfl K (Qe (j:=i) Qo (congrArg some q41) rfl (by rw[Qp];omega)) fun _ K=>?_;refine Ju rfl K rfl (lo41 _ 0 _ Qn rfl) (lo'41 _ 0 _ Qn rfl) (JI rfl) rfl Q8 fun _ K=>?_;obtain⟨s43,hi43⟩:=Uy a.nx z23 Qc;obtain⟨_,hc43,w43,rfl,hr43,hz43⟩:=hN.at_ _ _ hi43;have hw43:=wf.row s43 (List.mem_of_getElem? hi43);have hl43:s43.length=2^a.tr:=hw43.1;obtain⟨x43,m43,f43,q43,_,la43,lo43,lp43,la'43,lo'43,lp'43⟩:=Jg.NF (Jg.mem M hN.r Q4) (Jg.mem Mp hN.r Q4) (i:=z23) (cs:=_) hc43;refine q1 rfl K (Qe (j:=z23) QY (congrArg some q43) rfl (by rw[hN.ln];omega)) fun _ K=>?_;refine Ju rfl K rfl (lo43 _ 0 _ Ja rfl) (lo'43 _ 0 _ Ja rfl) (JI (Ub (hr43.len.trans (congrArg some (Qp _))))) rfl Q8 fun _ K=>?_;obtain⟨y48,hi48⟩:=Uy s43 ((Zq k c 1)) Qc;have hb48:=hw43.2 y48 (List.mem_of_getElem? hi48);obtain⟨z48,rfl⟩: ∃m:Nat,y48=((m:Nat):Int):=⟨_,(Int.toNat_of_nonneg hb48.1).symm⟩;refine dI rfl rfl (Jg.mem M hr43 Q4) (Jm hi48) K Qo Qn rfl rfl rfl fun _ _ _ _ K=>?_;have hi0:=Ig ((z48:Nat):Int) (Xl ((z30:Nat):Int) (JP (WK a k c (q.take i))));obtain⟨v50,st50,ev50,ko50,b50,rfl,had50,q50⟩:=PL M.fresh (Mem.Ys (L:=[(c4,0,[iZ (a.tr:Nat),ka,kn])]) (B:=[]) M hA32) hA32.Ti Qc z48 Qc;refine qA rfl K (Qf rfl ev50) fun _ K=>?_;obtain⟨A50,hA50,M⟩:=Mem.fN (L:=[(c4,0,[iZ (a.tr:Nat),ka,kn])]) (A:=A32) M hA32 q50 had50;simp only[XB]at M;have Mp:=Mq;have Mq:=M;refine Jo 4 K M fun _ K=>?_;refine QF ?_;show W _ _ _ _ _ _ _;refine Qb 3 K M fun _ K=>?_;exact⟨_,Qc,i+1,ko50,A50,rfl,(K.sub rfl),M.less (.refl _),Qc,(by rw[N6 hi23,Rg,Int.toNat_natCast,JH hi25 hi30,JH hi43 hi48];exact hA50)⟩
 refine QK ?_;show W _ _ _ _ _ _ _;refine Qb 2 K M ?_;rw[List.take_of_length_le Qc]at hA;refine⟨_,rfl,?_,M.qt⟩;exact Mem.BS (L:=[(c4,0,[iZ (a.tr:Nat),ka,kn])]) (B:=[]) M hA

theorem D7(hf:Qi st){Fv:Fp}{kl kq:AV}{vs:List AV}{L:List (List Int)}{q:List Int}(hO:UZ st.h.get F 1 kl (LN vs))(hi: ∀c,F c→c<st.n)(hV:Zl st.h.get Fv vs L)(hvn: ∀c,Fv c→c<st.n)(hvd: ∀c,Fv c→ ¬F c)(hl:L.length≤1000)(hq:Jg st.h.get [] 1 (zC q) kq)(hX: ∀c m o n y,kq=.sl c m o n y→ ¬F c): ∃v st',Jf 128 [kl,kq] st v st'∧ ∃kl' k was L' vs' F',v=.tup [kl',iN k,.bool was]∧UZ st'.h.get F' 1 kl' (LN vs')∧Ee st st' F F'∧UQ F st st'∧Gp L vs q kq L' vs' k was:=by
 have hvl:=hV.ln;have hqc:=hq.cell;have B:=Qk.UK (o:=Wz F 1 kl (LN vs)) hf hO hi;obtain⟨A,hA,B⟩:=B.BO;refine J7 Tryz.func128 Tryz.ntmps128 fun T K=>?_;have M:=B.mem;refine Qb 4 K M fun _ K=>?_;refine QX (fun mm1 T st9=> ∃(i:Nat),mm1=L.length-i∧QS [(0,kl),(1,kq),(7,iN i)] T∧Qk st (Wz F 1 kl (LN vs)).F st9 (A++[]) []∧i≤L.length∧(∀(j:Nat) (x:List Int),j<i→L[j]? =some x→x≠q)) (fun mm1 T st9 hI=>?_) _ _ _ ⟨0,rfl,(K.sub rfl),(B.step M).less (.refl _),(Nat.zero_le _),(fun j x hj=>absurd hj (Nat.not_lt_zero j))⟩;obtain⟨i,rfl,K,B,hil,hne⟩:=hI;have M:=B.mem;refine Qb 2 K M fun _ K=>?_;refine p1 K (Q5 JS rfl rfl (hA.len.trans (congrArg some ((AS _).trans hvl)))) fun _ K=>?_;refine Qb 1 K M fun _ K=>?_;refine Jt K rfl (fun h11=>?_) fun h11=>?_
 ·refine Qb 2 K M fun _ K=>?_;obtain⟨s16,hi16⟩:=Uy L i Qc;obtain⟨w16,hv16,hr16,hz16,hf16⟩:=(hV.frame fun c hc=>(B.step M).J9 c (hvn c hc) (hvd c hc)).at_ _ _ hi16;refine oI (Mem.Ys (L:=[]) (B:=[]) M hA) (Lq hv16) K QY Ja rfl rfl rfl fun _ _ _ _ K=>?_;refine Qb 1 K M fun _ K=>?_;refine oQ K M (Dl M.fresh (Zl.rowAt (hV.frame fun c hc=>(B.step M).J9 c (hvn c hc) (hvd c hc)) hi16 hv16) ((B.step M).rd hf hq hX)) rfl rfl fun _ _ K M=>?_;refine Qb 0 K M fun _ K=>?_;refine Jt K rfl (fun h19=>?_) fun h19=>?_
  ·refine Qb 5 K M fun _ K=>?_;refine Jx ⟨.inr rfl,_,(Jw (Q6 K rfl) (Q6 K rfl) (Q6 K rfl)),?_⟩;replace B:=(B.step M).less (.refl _);obtain⟨F',B'⟩:=Qk.VK (M:=[]) (A:=A) B hA;exact⟨_,i,true,L,vs,F',rfl,B'.at_ (k:=0) rfl,fun c hc=>⟨(B'.L7 (k:=0) rfl c hc).symm,B'.Y3 (k:=0) rfl c hc⟩,B'.JM,.inl ⟨rfl,rfl,rfl,by rw[hi16,h19]⟩⟩
  refine Qb 3 K M fun _ K=>?_;exact⟨_,Qc,i+1,rfl,(K.sub rfl),(B.step M).less (.refl _),Qc,(E7 hne hi16 h19)⟩
 refine QK ?_;show W _ _ _ _ _ _ _;refine Jy ?_
 have hno:q∉L:=fun hm=>by obtain⟨j,hj⟩:=List.getElem?_of_mem hm;exact hne j q (by have:=(List.getElem?_eq_some_iff.1 hj).1;omega) hj rfl
 refine Qb 2 K M fun _ K=>?_;refine Xo K M QQ Ut rfl ((JB rfl hqc rfl).trans rfl) (Qa hqc Qz) rfl rfl fun c24 _ _ K M=>?_;refine QZ (k2:=0) (L:=[(c24,0,[kq])]) (B:=[]) K M hA QQ rfl rfl rfl rfl (by rw[AS];omega) rfl fun ks25 A25 _ _ K hA25 M=>?_;refine Qb 1 K M fun _ K=>?_;refine p1 K (Q5 JS rfl rfl (hA.len.trans (congrArg some ((AS _).trans hvl)))) fun _ K=>?_;refine Qb 3 K M fun _ K=>?_;refine Jx ⟨.inr rfl,_,(Jw (Q6 K rfl) (Q6 K rfl) (Q6 K rfl)),?_⟩;replace B:=(B.step M).less (.cons _ (.refl _));obtain⟨F',B'⟩:=Qk.VK (M:=[]) (A:=A25) (ls:=LN (vs++[kq])) B (by rw[qW];exact hA25);exact⟨_,L.length,false,L++[q],_,F',rfl,B'.at_ (k:=0) rfl,fun c hc=>⟨(B'.L7 (k:=0) rfl c hc).symm,B'.Y3 (k:=0) rfl c hc⟩,B'.JM,.inr ⟨rfl,fun hm=>hno hm,rfl,rfl,rfl⟩⟩
end
end Go.Proofs.YtiknomepbklibaaGreatDoor
