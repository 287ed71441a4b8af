/-
  The next set, a set's number: the program's.
-/
import Derived.Test.YtiknomepbklibaaGreatDoorQhPja
set_option maxHeartbeats 8000000
set_option maxRecDepth 100000
set_option linter.unnecessarySimpa false
set_option linter.unusedSimpArgs false
set_option linter.unusedVariables false
namespace Go.Proofs.YtiknomepbklibaaGreatDoor
section
open Go Go.RowKit
variable {F:Fp} {L:List (List Int)} {cp l mp xp:Nat} {st:St}

def HI(F:Fp)(cp:Nat)(L:List (List Int)):Ob:=⟨F,fun h=>ZG h F cp L,fun _ _ e H=>H.frame e⟩
structure Oz(h:Hp)(F:Fp)(xp cp mp:Nat)(L:List (List Int))(l:Nat):Prop where
 pool:ZG h F cp L
 met:Qy h mp 0 [.int .i64 (l:Nat),.bool false]
 row:Qy h xp 0 [.ptr cp 0 0,.ptr mp 0 0]
 d1: ¬F mp
 d2: ¬F xp
 d3:xp≠mp
def CB(F:Fp)(xp mp:Nat):Fp:=fun c=>F c∨c=mp∨c=xp
theorem Oz.frame{h h':Hp}{F:Fp}{xp cp mp:Nat}{L:List (List Int)}{l:Nat}(e: ∀c,CB F xp mp c→h' c=h c)(H:Oz h F xp cp mp L l):Oz h' F xp cp mp L l:=
 ⟨H.pool.frame fun c hc=>e c (.inl hc),H.met.frame (e mp (.inr (.inl rfl))),H.row.frame (e xp (.inr (.inr rfl))),H.d1,H.d2,H.d3⟩
def eF(F:Fp)(xp cp mp:Nat)(L:List (List Int))(l:Nat):Ob:=⟨CB F xp mp,fun h=>Oz h F xp cp mp L l,fun _ _ e H=>H.frame e⟩
theorem Qk.xk(hf:Qi st)(H:Oz st.h.get F xp cp mp L l)(hi: ∀c,CB F xp mp c→c<st.n):Qk st (CB F xp mp) st [(xp,0,[.ptr cp 0 0,.ptr mp 0 0])] [HI F cp L,Yt mp l false]:=by
 refine⟨hf,Nat.le_refl _,fun c m x h=>?_,by simp,fun c m x h=>?_,fun o h=>?_,fun o h c hc=>?_,?_,fun o h c m x hm hc=>?_,fun _ _ _=>rfl⟩
 ·simp at h;obtain⟨rfl,rfl,rfl⟩:=h;exact H.row
 ·simp at h;obtain⟨rfl,rfl,rfl⟩:=h;exact .inr (.inr (.inr rfl))
 ·simp at h;rcases h with rfl|rfl
  ·exact H.pool
  ·exact H.met
 ·simp at h;rcases h with rfl|rfl
  ·exact⟨hi c (.inl hc),.inr (.inl hc)⟩
  ·exact⟨hi c (.inr (.inl hc)),.inr (.inr (.inl hc))⟩
 ·refine List.pairwise_cons.2 ⟨fun o h c h1 h2=>?_,List.pairwise_singleton _ _⟩;rw[List.mem_singleton.1 h]at h2;exact H.d1 ((show c=mp from h2)▸h1)
 ·simp at hm;obtain⟨rfl,rfl,rfl⟩:=hm
  simp at h;rcases h with rfl|rfl
  ·exact H.d2 hc
  ·exact H.d3 hc
theorem Qk.yE{st':St}{F':Fp}(B:Qk st (CB F xp mp) st' [(xp,0,[.ptr cp 0 0,.ptr mp 0 0])] [HI F' cp L,Yt mp l false]): ∃F',Oz st'.h.get F' xp cp mp L l∧Ef st st' (CB F xp mp) (CB F' xp mp)∧US (CB F xp mp) st st':=by
 have hp:=(List.pairwise_cons.1 B.dj).1 (Yt mp l false) Q7;refine⟨F',⟨B.at_ (k:=0) rfl,B.at_ (k:=1) rfl,B.row _ _ _ (List.mem_singleton.2 rfl),fun h=>hp mp h rfl,B.djM (HI F' cp L) Q7 xp 0 _ (List.mem_singleton.2 rfl),fun e=>B.djM (Yt mp l false) Q7 xp 0 _ (List.mem_singleton.2 rfl) e⟩,fun c hc=>?_,B.JN⟩;rcases hc with hc|hc|hc
 ·exact⟨(B.Lx (k:=0) rfl c hc).symm,B.Y4 (k:=0) rfl c hc⟩
 ·exact⟨(B.Lx (k:=1) rfl c hc).symm,B.Y4 (k:=1) rfl c hc⟩
 ·subst hc;exact⟨.inl (.inr (.inr rfl)),(B.row c 0 _ (List.mem_singleton.2 rfl)).lt B.fresh⟩
theorem N6(hf:Qi st)(hr:Qy st.h.get mp 0 [.int .i64 (l:Nat),.bool false])(hl:l≤9223372036854775807)(n:Nat)(hn:n≤l): ∃v st',Jh 62 [.ptr mp 0 0,.int .i64 (n:Nat)] st v st'∧v=.bool true∧(Yt mp (l-n) false).H st'.h.get∧US (fun c=>c=mp) st st':=by
 obtain⟨v,st',h1,h2,h3,h4⟩:=GA hf hr hl n Qc;exact⟨v,st',h1,by rw[h2,Tz hn],by rw[HS hn]at h3;exact h3,h4⟩
theorem jX(hf:Qi st){a:Au}(wf:Zs a){kn:AV}{ls:List (List AV)}(hN:O6 st.h.get a.nx kn ls){q:List Int}{kq:AV}(hq:Jj st.h.get [] 1 (zC q) kq)(hqs: ∀z∈q,0≤z∧z<((a.n:Nat):Int))(hql:q.length≤400){c k:Nat}(hk:k<a.tr)(hc:c<2^(a.tr-1)): ∃v st',Jh 41 [kn,kq,iN c,iN k] st v st'∧ ∃kr A,v=kr∧AI st.n A kr (Uv a k q c)∧(∀c' m l,(c',m,l)∈A→Qy st'.h.get c' m l)∧Qt st st':=by
 have htr:=wf.tr;have hlen:=wf.len;have hc62:c≤64:=by have:=J9 (T:=a.tr-1) Qc;omega
 have hu0:=Nh hk hc (u:=0) Q9;have hu1:=Nh hk hc (u:=1) Q9;have hp6:=J9 htr;have hnc:=hN.r.cell;have hqc:=hq.cell;have hlo:=IJ k c;have hpk:=jk wf hk;have hcm:c % 2^k≤c:=Nat.mod_le _ _
 have hh0:c/2^k *2^(k+1)≤Vl k c 0:=by unfold Vl;omega
 have hh1:c/2^k *2^(k+1)≤9223372036854775807:=by omega
 refine JA Tryz.func41 Tryz.ntmps41 fun T K=>?_;have M:=Mem.start hf;refine Qb 3 K M fun _ K=>?_;refine p1 K (UU (n:=k) rfl rfl Qc) fun _ K=>?_;refine Qb 1 K M fun _ K=>?_;refine p1 K (Tq (k:=k) (c:=c) rfl rfl Qc Qc) fun _ K=>?_;refine Qb 5 K M fun _ K=>?_;refine p1 K (ug (k:=k) (c:=c) rfl rfl Qc) fun _ K=>p1 K (Ns (SU k c) rfl rfl Qc hh1) fun _ K=>?_;refine Qb 3 K M fun _ K=>?_;refine p1 K (Q5 Ja rfl rfl (hq.len.trans (congrArg some (Qq _)))) fun _ K=>?_;refine Qb 1 K M fun _ K=>?_;refine QY (fun mm1 T st9=> ∃(i:Nat) (ko:AV) (A:UA),mm1=q.length-i∧QT [(0,kn),(3,iN k),(8,.nils),(10,iZ (Vl k c 0:Nat)),(11,ko),(25,kq),(26,iZ (q.length:Nat)),(27,iN i)] T∧Mem st.h.get st.n [] st9 (A++[])∧i≤q.length∧Acc st.n 1 A ko (zC (WK a k c (q.take i)))) (fun mm1 T st9 hI=>?_) _ _ _ ⟨0,.nils,[],rfl,(K.sub rfl),M.less (.refl _),(Nat.zero_le _),(by rw[List.take_zero];exact .none)⟩;obtain⟨i,ko,A,rfl,K,M,hiq,hA⟩:=hI;refine Qb 1 K M fun _ K=>?_;refine Jy K rfl (fun h28=>?_) fun h28=>?_
 ·refine Qb 0 K M fun _ K=>?_;obtain⟨y29,hi29⟩:=Uw q i Qc;have hb29:=hqs y29 (List.mem_of_getElem? hi29);refine oI (Jj.mem M hq Q7) (Jm hi29) K Qo Qn rfl rfl rfl fun _ _ _ _ K=>?_;refine Qb 1 K M fun _ K=>?_;refine QC (l:=[(0,0),(1,0),(2,0),(3,0),(4,0),(5,0),(6,0),(7,0),(8,0),(9,0),(10,0),(11,0),(12,0),(13,0),(14,0),(15,0),(16,0),(17,0),(18,0),(19,0),(20,0)]) (by kernel_rfl) ?_;refine Jo 3 K M fun _ K=>?_;obtain⟨s34,hi34⟩:=Uw a.nx ((y29).toNat) Qc;obtain⟨_,hc34,w34,rfl,hr34,hz34⟩:=hN.at_ _ _ hi34;have hw34:=wf.row s34 (List.mem_of_getElem? hi34);have hl34:s34.length=2^a.tr:=hw34.1;obtain⟨x34,m34,f34,q34,_,la34,lo34,lp34⟩:=(Jj.mem M hN.r Q7).load (i:=(y29).toNat) (cs:=_) hc34;refine q1 rfl K (Qe (j:=(y29).toNat) QZ (congrArg some q34) (congrArg (fun z=>some (iZ z)) (by omega:_=(((y29).toNat:Nat):Int))) (by rw[hN.ln];omega)) fun _ K=>q1 rfl K (Qf rfl (lo34 _ 0 _ Jb rfl)) fun _ K=>q1 rfl K (Q0 rfl) fun _ K=>?_;obtain⟨y37,hi37⟩:=Uw s34 ((Vl k c 0)) Qc;have hb37:=hw34.2 y37 (List.mem_of_getElem? hi37);refine dI rfl rfl (Jj.mem M hr34 Q7) (Jm hi37) K Qo Qn rfl rfl rfl fun _ _ _ _ K=>?_;refine Jo 2 K M fun _ K=>?_;obtain⟨_,hc41,w41,rfl,hr41,hz41⟩:=hN.at_ _ _ hi34;obtain⟨x41,m41,f41,q41,_,la41,lo41,lp41⟩:=(Jj.mem M hN.r Q7).load (i:=(y29).toNat) (cs:=_) hc41;refine q1 rfl K (Qe (j:=(y29).toNat) QZ (congrArg some q41) (congrArg (fun z=>some (iZ z)) (by omega:_=(((y29).toNat:Nat):Int))) (by rw[hN.ln];omega)) fun _ K=>q1 rfl K (Qf rfl (lo41 _ 0 _ Jb rfl)) fun _ K=>?_;refine Jo 2 K M fun _ K=>?_;refine q1 rfl K (UU (n:=k) rfl rfl Qc) fun _ K=>q1 rfl K (Ns (x9 k c) rfl rfl Qc Qc) fun _ K=>?_;obtain⟨y47,hi47⟩:=Uw s34 ((Vl k c 1)) Qc;have hb47:=hw34.2 y47 (List.mem_of_getElem? hi47);refine dI rfl rfl (Jj.mem M hr41 Q7) (Jm hi47) K Qo Qn rfl rfl rfl fun _ _ _ _ K=>?_;refine XY rfl K M QJ XL rfl rfl rfl rfl rfl fun c49 _ _ K M=>?_;refine AO (L:=[(c49,0,[iZ y37,iZ y47])]) (A:=A) (B:=[]) (ls2:=[[iZ y37],[iZ y47]]) (Y:=[]) rfl K M hA QJ rfl rfl (Jj.own (ls:=[[iZ y37],[iZ y47]]) (Mem.Yb (k:=0) M rfl) Q7 Q7 Q7) Q7 (by simp only[Qq,II,List.length_take,List.length_cons,List.length_nil];omega) rfl fun ks50 A50 _ _ K hA50 M=>?_;refine q1 rfl K (JW rfl) fun _ K=>QF ?_;show W _ _ _ _ _ _ _;refine Qb 2 K M fun _ K=>?_;exact⟨_,Qc,i+1,ks50,A50,rfl,(K.sub rfl),M.less (.cons _ (.refl _)),Qc,(by rw[N1 hi29,JI hi34 hi37,JI hi34 hi47,JX,Int.toNat_of_nonneg hb37.1,Int.toNat_of_nonneg hb47.1];exact hA50)⟩
 refine QM ?_;show W _ _ _ _ _ _ _;refine Qb 1 K M fun _ K=>?_;rw[List.take_of_length_le Qc]at hA;have hln:=II a k c q;obtain⟨v53,st53,A12,ev53,rfl,M7,hA12⟩:=Gs (L:=[]) (A:=A) (B:=[]) M hA Qc;refine p1 K (Qg rfl ev53) fun _ K=>?_;replace M:=M7;refine Qb 1 K M fun _ K=>?_;obtain⟨v55,st55,A14,ev55,hA14,M9⟩:=GW (L:=[]) (A:=A12) (B:=[]) M hA12 (by rw[YZ];omega);rw[Ll]at hA14;refine p1 K (Qg rfl ev55) fun _ K=>?_;replace M:=M9;refine Qb 1 K M ?_;refine⟨_,A14,rfl,hA14,fun c' m l h=>M.row c' m l (by simp[h]),M.qt⟩

theorem jY(hf:Qi st)(H:Oz st.h.get F xp cp mp L l)(hi: ∀c,CB F xp mp c→c<st.n)(hL:L.length≤400)(hl1:1≤l)(hl:l≤9223372036854775807){q:List Int}{kq:AV}(hq:Jj st.h.get [] 1 (zC q) kq)(hX: ∀c m o n y,kq=.sl c m o n y→ ¬CB F xp mp c)(hz:Xx q)(hql:q.length≤100000)(hs:Wf q): ∃v st',Jh 37 [.ptr xp 0 0,kq] st v st'∧v=.tup [iZ (MJ L q:Nat),.bool (decide (((Fw L q).length:Int)≤400))]∧ ∃F',Oz st'.h.get F' xp cp mp (Fw L q) (l-((Fw L q).length-L.length))∧Ef st st' (CB F xp mp) (CB F' xp mp)∧US (CB F xp mp) st st':=by
 have B:=Qk.xk hf H hi;have hof:=G3 (L:=L) hs;have hqc:=hq.cell;refine JA Tryz.func37 Tryz.ntmps37 fun T K=>?_;have M:=B.mem;refine Qb 5 K M fun _ K=>?_;refine p1 K (Qf rfl (M.load (k:=0) rfl (Qd YW rfl))) fun _ K=>?_;replace B:=B.step M;obtain⟨v12,st12,ev12,rfl,q12⟩:=Lz (L:=L) B.fresh (B.at_ (k:=0) rfl);refine p1 K (Qg rfl ev12) fun _ K=>?_;replace B:=B.quiet q12;have M:=B.mem;refine Qb 4 K M fun _ K=>?_;refine p1 K (Qf rfl (M.load (k:=0) rfl (Qd YW rfl))) fun _ K=>?_;refine Qb 1 K M fun _ K=>?_;replace B:=B.step M;obtain⟨v18,st18,ev18,rfl,hP2,Q2⟩:=ec B.fresh (B.at_ (k:=0) rfl) (B.Y4 (k:=0) rfl) Qc (B.rd hf hq hX) hz hql;refine p1 K (Qg rfl ev18) fun _ K=>?_;generalize hF2:(fun c=>F c∨_)=F2 at hP2;replace B:=B.call (k:=0) (o':=HI F2 cp (Fw L q)) rfl Q2 hP2 (fun c hc=>by rw[show(HI F2 cp (Fw L q)).F c=F2 c from rfl,←hF2]at hc;rcases hc with hc|hc;exact⟨.inl hc,Nat.lt_of_lt_of_le (B.Y4 (k:=0) rfl c hc) Q2.le⟩;exact⟨.inr hc.1,hc.2⟩);have M:=B.mem;refine Qb 4 K M fun _ K=>?_;refine Jy K rfl (fun h21=>?_) fun h21=>?_
 ·refine Qb 3 K M ?_;replace B:=B.step M;rcases hof with⟨a1,a2,a3⟩|⟨a1,a2,a3⟩
  ·have e8:(Fw L q).length=L.length:=by rw[a2]
   refine⟨by rw[decide_eq_true (show((Fw L q).length:Int)≤400 by omega)],?_⟩;rw[show l-((Fw L q).length-L.length)=l by omega];exact B.yE
  ·exfalso;omega
 refine Qb 5 K M fun _ K=>?_;replace B:=B.step M;obtain⟨v28,st28,ev28,rfl,hm3,Q3⟩:=N6 B.fresh (B.at_ (k:=1) rfl) hl 1 Qc;refine p1 K (Qg rfl ev28) fun _ K=>?_;replace B:=B.call (k:=1) (o':=Yt mp (l-1) false) rfl Q3 hm3 (fun c hc=>⟨.inl hc,Nat.lt_of_lt_of_le (B.Y4 (k:=1) rfl c hc) Q3.le⟩);have M:=B.mem;refine Qb 4 K M fun _ K=>?_;refine pg K rfl rfl (Qf rfl (M.load (k:=0) rfl (Qd YW rfl))) fun _ K=>?_;replace B:=B.step M;obtain⟨v34,st34,ev34,rfl,q34⟩:=Lz (L:=(Fw L q)) B.fresh (B.at_ (k:=0) rfl);refine pg K rfl rfl (Qg rfl ev34) fun _ K=>?_;replace B:=B.quiet q34;have M:=B.mem;refine Qb 4 K M ?_;replace B:=B.step M;rcases hof with⟨a1,a2,a3⟩|⟨a1,a2,a3⟩
 ·exfalso;omega
 ·have e8:(Fw L q).length=L.length+1:=by rw[a2,List.length_append];rfl
  refine⟨rfl,?_⟩;rw[show l-((Fw L q).length-L.length)=l-1 by omega];exact B.yE
end
section
open Go Go.RowKit
variable {a:Au} {dp:Nat}

theorem UZ.O5{st st':St}{F X:Fp}(hD:UZ st F dp a)(Q:US X st st')(hd: ∀c,F c→ ¬X c):UZ st' F dp a:=⟨hD.at_.frame fun c hc=>Q.JB c (hD.hi c hc) (hd c hc),fun c hc=>Nat.lt_of_lt_of_le (hD.hi c hc) Q.le⟩
section
variable {st0 st st':St} {X0 F:Fp} {M A:QS} {Os:List Ob} {o:Ob} {xp cp mp l:Nat} {L:List (List Int)}
theorem Qk.vY(B:Qk st0 X0 st M Os){k:Nat}(hk:Os[k]? =some (eF F xp cp mp L l)):Oz st.h.get F xp cp mp L l:=B.at_ hk
theorem Qk.fS(B:Qk st0 X0 st ((xp,0,[.ptr cp 0 0,.ptr mp 0 0])::M) (HI F cp L::o::Yt mp l false::Os)):Qk st0 X0 st M (eF F xp cp mp L l::o::Os):=by
 have d1:=(List.pairwise_cons.1 B.dj).1 (Yt mp l false) Q7;have d2:=B.djM (HI F cp L) Q7 xp 0 _ (List.mem_cons_self ..);have d3:=B.djM (Yt mp l false) Q7 xp 0 _ (List.mem_cons_self ..);have B1:=B.G0 (Os':=HI F cp L::Yt mp l false::o::Os) (.cons _ (.swap ..));have B2:=Qk.freeze (R:=[(xp,0,[.ptr cp 0 0,.ptr mp 0 0])]) (o:=Xn [(xp,0,[.ptr cp 0 0,.ptr mp 0 0])]) (M:=M) B1 (fun c m x h=>B.row c m x (by rw[List.mem_singleton.1 h];exact List.mem_cons_self ..)) (fun c hc=>hc)
 have B3:=B2.join (o:=⟨fun c=>c=xp∨F c,fun h=>Qy h xp 0 [.ptr cp 0 0,.ptr mp 0 0]∧ZG h F cp L,fun h h' e H=>⟨H.1.frame (e xp (.inl rfl)),H.2.frame fun c hc=>e c (.inr hc)⟩⟩) (fun h1 h2=>⟨h1 xp 0 _ (List.mem_singleton.2 rfl),h2⟩) (fun c hc=>by
  rcases hc with hc|hc
  ·exact .inl ⟨0,_,by rw[hc];exact List.mem_singleton.2 rfl⟩
  ·exact .inr hc)
 refine B3.join (fun h1 h2=>⟨h1.2,h2,h1.1,fun h=>d1 mp h rfl,d2,fun e=>d3 e⟩) (fun c hc=>?_);rcases hc with hc|hc|hc
 ·exact .inl (.inr hc)
 ·exact .inr hc
 ·exact .inl (.inl hc)
theorem Qk.yS(B:Qk st0 X0 st M Os)(q:Qt st st')(hA: ∀c m l,(c,m,l)∈A→Qy st'.h.get c m l∧st.n≤c)(hn:(A.map Prod.fst).Nodup):Qk st0 X0 st' (M++(A++[])) Os:=by
 have B1:=B.quiet q;refine⟨B1.fresh,B1.le,fun c m l hm=>?_,?_,fun c m l hm=>?_,B1.obj,B1.hi,B1.dj,fun o ho c m l hm hc=>?_,B1.JB⟩
 ·rw[List.append_nil]at hm;rcases List.mem_append.1 hm with hm|hm
  ·exact B1.row c m l hm
  ·exact(hA c m l hm).1
 ·rw[List.append_nil,List.map_append];refine List.nodup_append.2 ⟨B.nodup,hn,fun x hx y hy e=>?_⟩;subst e;obtain⟨⟨c,m,l⟩,k1,rfl⟩:=List.mem_map.1 hx;obtain⟨⟨c',m',l'⟩,k2,k3⟩:=List.mem_map.1 hy;simp only at k3;subst k3;have:=(B.row _ m l k1).lt B.fresh;have:=(hA _ m' l' k2).2;omega
 ·rw[List.append_nil]at hm;rcases List.mem_append.1 hm with hm|hm
  ·exact B1.lo c m l hm
  ·exact .inl (Nat.le_trans B.le (hA c m l hm).2)
 ·rw[List.append_nil]at hm;rcases List.mem_append.1 hm with hm|hm
  ·exact B1.djM o ho c m l hm hc
  ·have:=(B.hi o ho c hc).1;have:=(hA c m l hm).2;omega
end
theorem AI.vj{n0:Nat}{A:QS}{kr:AV}{l:List Int}(hA:AI n0 A kr l):zF (Xn A).F kr:=fun c m o n y e=>by
 cases hA with
 |none=>cases e
 |own h1 h2=>injection e with e1 e2;subst e1;exact⟨_,_,List.mem_cons_self ..⟩
theorem AI.nodup{n0:Nat}{A:QS}{kr:AV}{l:List Int}(hA:AI n0 A kr l):(A.map Prod.fst).Nodup:=by cases hA<;>simp
theorem wZ{h:Hp}{c m:Nat}{z:Int}(r:Qy h c m [.int .i64 z]):Jj h [] 1 (zC [z]) (.sl c m 0 1 1):=Jj.own (ls:=zC [z]) r (FM _) Q7 (by simp[zC])
theorem Nr{P:Program}{G:Env}{K:List (Nat×AV)}{st:St}{t yt:TypeId}{x y:Operand}{a:Nat}(hx:QV G K x=some (.int .i64 (a:Nat)))(hy:QV G K y=some (.int .i64 1))(h1:1≤a)(hb:a≤9223372036854775807):U3 P G K (.binOp .sub t x y yt) st (.int .i64 (a-1:Nat)) st:=by
 rw[show((a-1:Nat):Int)=((a:Nat):Int)-1 by omega];exact ua hx hy Qc Qc
theorem ee(L:List (List Int))(q:List Int):L.length≤(Fw L q).length:=by
 unfold Fw;split
 ·exact Nat.le_refl _
 ·simp
theorem um{L:List (List Int)}{q:List Int}{n:Nat}(h:n≤L.length):(Fw L q).take n=L.take n:=by
 unfold Fw;split
 ·rfl
 ·rw[List.take_append_of_le_length h]
theorem Ux{α:Type}{L L2:List α}{n:Nat}(h:L2.take n=L.take n)(hn:n≤L.length):n≤L2.length:=by
 have:=congrArg List.length h;rw[List.length_take,List.length_take]at this;omega
theorem Vh{α:Type}{L L2:List α}{i:Nat}{q:α}(h:L2.take (i+1)=L.take (i+1))(hq:L[i]? =some q):L2[i]? =some q:=by
 have e:=congrArg (fun l=>l[i]?) h;simp only[List.getElem?_take]at e
 simpa [hq]using e
theorem Vw.Fx{α:Type}{δ:α→Nat→α}{s0:α}{K:Nat}{L:List α}{rows:List (List Int)}{row:List Int}(H:Vw δ s0 K L rows row)(hL:L.length≤400):Xx row:=fun z hz=>by
 have:=H.bound z (List.mem_append_right _ hz)
 constructor<;>omega
theorem xD{st:St}(hf:Qi st){F:Fp}{xp cp mp l:Nat}(H:Oz st.h.get F xp cp mp [] l)(hi: ∀c,CB F xp mp c→c<st.n)(hl1:1≤l)(hl:l≤9223372036854775807){c0 m0:Nat}(hq:Qy st.h.get c0 m0 [.int .i64 0])(hX: ¬CB F xp mp c0):
  ∃v st',Jh 37 [.ptr xp 0 0,.sl c0 m0 0 1 1] st v st'∧v=.tup [.int .i64 0,.bool true]∧ ∃F',Oz st'.h.get F' xp cp mp [[0]] (l-1)∧Ef st st' (CB F xp mp) (CB F' xp mp)∧US (CB F xp mp) st st':=by
 obtain⟨v,st',h1,h2,F',h3⟩:=jY hf H hi Q9 hl1 hl (q:=[0]) (wZ hq) (fun c m o n y e=>by injection e with e1;subst e1;exact hX) (fun z hz=>by rw[List.mem_singleton.1 hz];decide) Q9 (List.pairwise_singleton _ _);exact⟨v,st',h1,h2,F',h3⟩
theorem qY{st:St}(hf:Qi st){F:Fp}{acc:List Bool}(hD:UZ st F dp ⟨a.tr,acc,a.nx⟩)(hn:acc.length=a.n){q:List Int}{kq:AV}(hq:Jj st.h.get [] 1 (zC q) kq)(hs:Fz a.n q)(hm:a.n≤400):
  ∃v st',Jh 42 [kq,.fn 26 [.ptr dp 0 0] []] st v st'∧v=.bool (anyS acc q)∧Qt st st':=by
 refine Ir (fa:=[.ptr dp 0 0]) (fc:=[]) (p:=fun z=>IY acc z.toNat) hf hq (by have:=hs.len;omega) fun x hx st1 q1=>?_;have hb:=hs.2 x hx;have:=VE q1.fresh (hD.q q1) (s:=x.toNat) (by show x.toNat<acc.length;omega);rw[Int.toNat_of_nonneg hb.1]at this;exact this
def fw(st st':St)(a:Au)(k:Nat)(acc:List Bool)(mp l:Nat)(v:AV):Prop:=
 (∃dp2 F2 L m,v=.tup [.ptr dp2 0 0,.int .i64 0]∧UZ st' F2 dp2 m∧ZQ st st' F2∧m.tr=a.tr-1∧UB (Uv a k) [0] (anyS acc) L m∧Qy st'.h.get mp 0 [.int .i64 (l-L.length:Nat),.bool false])∨
 (v=.tup [.nilp,.int .i64 8]∧ ∃L:List (List Int),L.length=401∧L.Nodup∧(∀(Q:List Int→Prop),Q [0]→(∀s c,Q s→c<2^(a.tr-1)→Q (Uv a k s c))→ ∀s∈L,Q s)∧Qy st'.h.get mp 0 [.int .i64 (l-401:Nat),.bool false])

theorem D0{st:St}(hf:Qi st){F:Fp}(hD:UZ st F dp a){k:Nat}(hk:k<a.tr){mp l:Nat}(hm:Qy st.h.get mp 0 [iN l,.bool false])(hdm: ¬F mp)(hl1:401≤l)(hl:l≤9223372036854775807): ∃v st',Jh 12 [.ptr dp 0 0,iN k,.ptr mp 0 0] st v st'∧(∃YF,AM a k YF∧fw st st' a k YF mp l v)∧US (fun c=>c=mp) st st':=by
 have wf:=hD.wf;have htr:=wf.tr;have hmo:=wf.most;have hp6:=J9 (T:=a.tr-1) Qc;have hp0:0<2^(a.tr-1):=Nat.two_pow_pos _;have hdF: ∀c,F c→ ¬(Yt mp l false).F c:=fun c hc e=>hdm ((show c=mp from e)▸hc);have B:=Qk.UN (o:=Yt mp l false) hf hm (fun c hc=>(show c=mp from hc)▸hm.lt hf);refine JA Tryz.func12 Tryz.ntmps12 fun T K=>?_;have M:=B.mem;refine Qb 4 K M fun _ K=>?_;replace B:=B.step M;obtain⟨v24,st24,ev24,dpc,Fc,YF,rfl,hcl,hDc,nfc,q24⟩:=MB B.fresh (hD.O5 B.JN hdF) hk;refine p1 K (Qg rfl ev24) fun _ K=>?_;replace B:=B.new (o:=Ip Fc dpc ⟨a.tr,YF,a.nx⟩) q24 hDc.at_ nfc;have M:=B.mem;refine Qb 7 K M fun _ K=>?_;refine Qp (K.QG rfl) (fun h28=>?_) (fun h28=>?_)
 ·have hb28:=h28
  replace h28: ¬(0=0):=by first|exact of_decide_eq_false h28|exact yF h28|simpa using h28
  exfalso;omega
 have hb28:=h28
 replace h28:(0=0):=by first|exact of_decide_eq_true h28|exact yT h28|simpa using h28
 refine Qb 0 K M fun _ K=>?_;replace B:=B.step M;obtain⟨v30,st30,ev30,cp,rfl,hPn,q30⟩:=xV B.fresh;refine p1 K (Qg rfl ev30) fun _ K=>?_;obtain⟨Fq,hPn,hnp⟩: ∃Fq,ZG _ Fq cp []∧ZQ _ _ Fq:=⟨_,hPn,fun c hc=>hc⟩;replace B:=B.new (o:=HI Fq cp []) q30 hPn hnp;have M:=B.mem;refine au 4 K M ?_;intro c33 _ _ K _ M;replace B:=(B.step M).fS;have M:=B.mem;refine au 2 K M ?_;intro c36 _ _ K _ M;replace B:=B.step M;obtain⟨v37,st37,ev37,rfl,F1,hM1,mf1,Q1⟩:=xD B.fresh (B.vY (k:=0) rfl) (B.Y4 (k:=0) rfl) Qc hl (B.row c36 0 _ Q7) (B.djM _ (List.mem_cons_self ..) c36 0 _ (List.mem_cons_self ..));refine p1 K (Qg rfl ev37) fun _ K=>?_;replace B:=B.call (k:=0) (o':=eF F1 c33 cp mp [[0]] (l-1)) rfl Q1 hM1 mf1;have M:=B.mem;refine Qb 9 K M fun _ K=>?_;refine oQ K M (Xu M.fresh (hD.O5 (B.step M).JN hdF)) rfl rfl fun _ _ K M=>?_;refine p1 K (Nr rfl rfl Qc Qc) fun _ K=>?_;refine au 4 K M ?_;intro c13 _ _ K _ M;replace B:=B.step M;obtain⟨v47,st47,ev47,nau,q47⟩:=Oc B.fresh (hD.O5 B.JN hdF);refine p1 K (Qg rfl ev47) fun _ K=>?_;obtain⟨kato,knto,vsto,Ato,Fto,rfl,hAto,B⟩:=B.Kx q47 nau;replace B:=B.less (List.sublist_append_left _ _);have hnto:Qs knto=true:=(Xw.rd (B.at_ (k:=0) rfl)).cell;have M:=B.mem;refine p1 K (Af rfl ((Zw _).trans (Qd Q8 rfl))) fun _ K=>?_;refine Qb 1 K M fun _ K=>?_;replace B:=(B.step M).V7;have M:=B.mem;refine Qb 1 K M fun _ K=>?_;refine QY (fun mm1 T st9=> ∃(i:Nat) (L:List (List Int)) (Fk:Fp) (LLr:List (List Int)) (vsr:List AV) (Fr:Fp) (ka:AV) (Aa:QS) (kr:AV) (Ar:QS),mm1=400-i∧QT [(1,iN k),(8,.ptr dpc 0 0),(10,.ptr c33 0 0),(13,.ptr c13 0 0),(14,knto),(15,iN i)] T∧Qk st (Yt mp l false).F st9 ((c13,0,[iZ (a.tr-1:Nat),ka,kr])::(c36,0,[iZ 0])::(Aa++(Ar++[]))) [ES Fr vsr LLr,BY Fto knto vsto a.nx,eF Fk c33 cp mp L (l-L.length),Ip Fc dpc ⟨a.tr,YF,a.nx⟩]∧Vw (Uv a k) [0] (2^(a.tr-1)) L LLr []∧LLr.length=i∧i≤L.length∧L.length≤400∧Acc 0 1 Aa ka (bC ((L.take i).map (anyS YF)))∧YS Ar kr vsr) (fun mm1 T st9 hI=>?_) _ _ _ ⟨0,[[0]],_,[],[],_,.nils,[],.nils,[],rfl,(K.sub rfl),(B.step M).less (.refl _),(Vw.start _ _ _),rfl,Q9,Q9,.none,.none⟩;obtain⟨i,L,Fk,LLr,vsr,Fr,ka,Aa,kr,Ar,rfl,K,B,hP,hLL,hiL,hL,hAa,hAr⟩:=hI;have M:=B.mem;have hall: ∀s∈L,Fz a.n s:=fun s hs=>hP.all (Q:=Fz a.n) (Fz.zero wf.pos) (fun s c hs hc=>hs.step wf hk hc) (Nat.two_pow_pos _) hs;refine Qb 4 K M fun _ K=>?_;refine p1 K (Qf rfl (Qx ((B.step M).vY (k:=2) rfl).row.Jd (Qd YW rfl))) fun _ K=>?_;refine oQ K M (Lz (L:=L) M.fresh ((B.step M).vY (k:=2) rfl).pool) rfl rfl fun _ _ K M=>?_;refine Qb 1 K M fun _ K=>?_;refine Jy K rfl (fun h55=>?_) fun h55=>?_
 ·refine Qb 3 K M fun _ K=>?_;refine p1 K (Qf rfl (Qx ((B.step M).vY (k:=2) rfl).row.Jd (Qd YW rfl))) fun _ K=>?_;refine Qb 1 K M fun _ K=>?_;obtain⟨q,hqi⟩: ∃q,L[i]? =some q:=⟨_,List.getElem?_eq_getElem Qc⟩;have hqS:=hall q (List.mem_of_getElem? hqi);obtain⟨v63,st63,ev63,kg,rfl,nrg,q63⟩:=vk M.fresh ((B.step M).vY (k:=2) rfl).pool (fun s hs=>Nat.le_trans (hall s hs).len Qc) (fun c hc=>(B.step M).Y4 (k:=2) rfl c (.inl hc)) ((i:Nat):Int);refine p1 K (Qg rfl ev63) fun _ K=>?_;rw[TE Qc (show L[((i:Nat):Int).toNat]? =some q from hqi)]at nrg;obtain⟨Ag,hAg,M⟩:=M.Yz q63 nrg;replace hAg:=hAg.z0;simp only[X3]at M;refine Qb 4 K M fun _ K=>?_;refine p1 K (UU (n:=(a.tr-1)) rfl rfl Qc) fun _ K=>?_;refine Qb 1 K M fun _ K=>?_;refine QY (fun mm2 T st9=> ∃(c:Nat) (L2:List (List Int)) (F2:Fp) (row:List Int) (kw:AV) (Aw:QS),mm2=2^(a.tr-1)-c∧QT [(1,iN k),(8,.ptr dpc 0 0),(10,.ptr c33 0 0),(13,.ptr c13 0 0),(14,knto),(15,iN i),(16,v63),(17,kw),(66,iZ (2^(a.tr-1):Nat)),(67,iN c)] T∧Qk st (Yt mp l false).F st9 ((c13,0,[iZ (a.tr-1:Nat),ka,kr])::(c36,0,[iZ 0])::(Aa++(Ar++(Ag++(Aw++[]))))) [ES Fr vsr LLr,BY Fto knto vsto a.nx,eF F2 c33 cp mp L2 (l-L2.length),Ip Fc dpc ⟨a.tr,YF,a.nx⟩]∧Vw (Uv a k) [0] (2^(a.tr-1)) L2 LLr row∧row.length=c∧c≤2^(a.tr-1)∧L2.length≤400∧L2.take (i+1)=L.take (i+1)∧Acc 0 1 Aw kw (zC row)) (fun mm2 T st9 hI=>?_) _ _ _ ⟨0,L,Fk,[],.nils,[],rfl,(K.sub rfl),(B.step M).less (.refl _),hP,rfl,(Nat.zero_le _),hL,rfl,.none⟩;obtain⟨c,L2,F2,row,kw,Aw,rfl,K,B,hP2,hrow,hcK,hL2,htk,hAw⟩:=hI;have M:=B.mem;refine Qb 1 K M fun _ K=>?_;refine Jy K rfl (fun h68=>?_) fun h68=>?_
  ·refine Qb 7 K M fun _ K=>?_;replace B:=B.step M;obtain⟨v76,st76,ev76,kx,Ax,rfl,hAx,hrx,q76⟩:=jX (c:=c) (q:=q) B.fresh wf (Xw.r (B.at_ (k:=1) rfl)) (Mem.Y6 (L:=((c13,0,[iZ (a.tr-1:Nat),ka,kr])::(c36,0,[iZ 0])::(Aa++(Ar++[])))) (A:=Ag) (B:=(Aw++[])) (Mem.cast M U0) hAg) hqS.2 (Nat.le_trans hqS.len wf.most) hk Qc;refine p1 K (Qg rfl ev76) fun _ K=>?_;replace B:=B.yS q76 (fun c m l h=>⟨hrx c m l h,hAx.ge h⟩) hAx.nodup;replace B:=B.cast (M':=((c13,0,[iZ (a.tr-1:Nat),ka,kr])::(c36,0,[iZ 0])::(Aa++(Ar++(Ag++(Aw++(Ax++[]))))))) U0;have M:=B.mem;replace B:=B.step M;have hq2S:=hqS.step wf hk (c:=c) Qc;have hge:=ee L2 (Uv a k q c);have hle:=xR L2 (Uv a k q c);have hPid:=hP2.id Qc (show L2[LLr.length]? =some q by rw[hLL];exact Vh htk hqi);rw[hrow]at hPid;obtain⟨v77,st77,ev77,rfl,F3,hM3,mf3,Q3⟩:=jY B.fresh (B.vY (k:=2) rfl) (B.Y4 (k:=2) rfl) hL2 Qc Qc (Mem.vO (L:=((c13,0,[iZ (a.tr-1:Nat),ka,kr])::(c36,0,[iZ 0])::(Aa++(Ar++(Ag++(Aw++[])))))) (A:=Ax) (B:=[]) (Mem.cast M U0) hAx) (fun c m o n y e hc=>by obtain⟨m',l',hm'⟩:=hAx.vj c m o n y e;exact B.djM (eF F2 c33 cp mp L2 (l-L2.length)) Q7 c m' l' (by simp[hm']) hc) (hq2S.Fx wf.most) (Nat.le_trans hq2S.len Qc) hq2S.1;refine p1 K (Qg rfl ev77) fun _ K=>?_;rw[show l-L2.length-((Fw L2 (Uv a k q c)).length-L2.length)=l-(Fw L2 (Uv a k q c)).length by omega]at hM3;replace B:=B.call (k:=2) (o':=eF F3 c33 cp mp (Fw L2 (Uv a k q c)) (l-(Fw L2 (Uv a k q c)).length)) rfl Q3 hM3 mf3;have M:=B.mem;refine Qb 7 K M fun _ K=>?_;refine Qp (K.QG rfl) (fun h81=>?_) (fun h81=>?_)
   ·have hb81:=h81
    replace h81: ¬(((Fw L2 (Uv a k q c)).length:Int)≤400):=by first|exact of_decide_eq_false h81|exact yF h81|simpa using h81
    refine Qb 2 K M ?_;replace B:=B.step M
    have h401:(Fw L2 (Uv a k q c)).length=401:=by omega
    have hmt:=(B.vY (k:=2) rfl).met;rw[h401]at hmt;exact⟨⟨YF,hcl,.inr ⟨rfl,_,h401,hPid.nodup,fun Q h0 hs s hm=>hPid.all h0 hs (Nat.two_pow_pos _) hm,hmt⟩⟩,B.JN⟩
   have hb81:=h81
   replace h81:(((Fw L2 (Uv a k q c)).length:Int)≤400):=by first|exact of_decide_eq_true h81|exact yT h81|simpa using h81
   refine au 3 K M ?_;intro c84 _ _ K _ M;refine Jf (k2:=0) (L:=((c84,0,[iZ (MJ L2 (Uv a k q c):Nat)])::(c13,0,[iZ (a.tr-1:Nat),ka,kr])::(c36,0,[iZ 0])::(Aa++(Ar++(Ag++[]))))) (A:=Aw) (B:=(Ax++[])) K (Mem.cast M U0) hAw QJ rfl rfl rfl rfl (by rw[Qq];omega) rfl fun ks85 A85 _ _ K hA85 M=>?_;simp only[X3]at M;refine Qb 3 K M fun _ K=>?_;exact⟨_,Qc,c+1,_,F3,(row++[((MJ L2 (Uv a k q c):Nat):Int)]),ks85,A85,rfl,(K.sub rfl),(B.step M).less (.cons _ (.cons_cons _ (.cons_cons _ (List.Sublist.append_left (List.Sublist.append_left (List.Sublist.append_left (List.Sublist.append_left (List.nil_sublist _) _) _) _) _)))),hPid,(by rw[List.length_append,hrow];rfl),Qc,Qc,(by rw[um (Ux htk Qc),htk]),(by rw[JX];exact hA85)⟩
  refine QM ?_;show W _ _ _ _ _ _ _;refine Qb 1 K M fun _ K=>?_;refine p1 K (Qf rfl (M.load (k:=0) rfl (Qd Q8 rfl))) fun _ K=>?_;refine Qb 1 K M fun _ K=>?_;refine X5 K M QQ Uu rfl ((JD rfl hAw.cell rfl).trans rfl) (Qa hAw.cell Q4) rfl rfl fun c90 _ _ K M=>?_;refine YL (k2:=0) (L:=((c90,0,[kw])::(c13,0,[iZ (a.tr-1:Nat),ka,kr])::(c36,0,[iZ 0])::(Aa++[]))) (A:=Ar) (B:=(Ag++(Aw++[]))) K (Mem.cast M U0) hAr QQ rfl rfl rfl (by have:=Zl.ln ((B.step M).at_ (k:=0) rfl);omega) rfl fun ks91 A91 _ _ K hA91 _ M=>?_;simp only[X3]at M;refine Qb 1 K M fun _ K=>?_;refine Jl (k:=1) K M rfl rfl rfl Uy (hA91.cell) rfl fun _ M=>?_;refine Qb 0 K M fun _ K=>?_;refine QC (l:=[(2,0),(3,0),(4,0),(5,0),(0,0),(1,1),(6,0),(7,0),(8,0),(9,0)]) (by kernel_rfl) ?_;have Mq:=M;refine Jo 2 K M fun _ K=>?_;refine q1 rfl K (X1 rfl rfl) fun _ K=>?_;obtain⟨v98,st98,ev98,rfl,q98⟩:=qY M.fresh ((B.step M).ja (k:=3) rfl) hcl.len (Mem.Y6 (L:=((c90,0,[kw])::(c13,0,[iZ (a.tr-1:Nat),ka,ks91])::(c36,0,[iZ 0])::(Aa++(A91++[])))) (A:=Ag) (B:=(Aw++[])) (Mem.cast M U0) hAg) hqS wf.most;refine qA rfl K (Qg rfl ev98) fun _ K=>?_;replace M:=M.quiet q98;have Mp:=Mq;have Mq:=M;refine Jo 1 K M fun _ K=>?_;refine Jt rfl K rfl (M.load (k:=1) rfl (Qd Um rfl)) (Mp.load (k:=1) rfl (Qd Um rfl)) (JQ (Uo hAa.len)) rfl Q9 fun _ K=>?_;refine XY rfl K M J4 Vd rfl rfl rfl rfl rfl fun c99 _ _ K M=>?_;refine X6 (k2:=0) (L:=[(c99,0,[.bool (anyS YF q)]),(c90,0,[kw]),(c13,0,[iZ (a.tr-1:Nat),ka,ks91]),(c36,0,[iZ 0])]) (A:=Aa) (B:=(A91++(Ag++(Aw++[])))) rfl K M hAa J4 rfl rfl rfl rfl (by rw[Uq,List.length_map,List.length_take];omega) rfl fun ks100 A100 _ _ K hA100 M=>?_;have Mp:=Mq;have Mq:=M;refine Jo 1 K M fun _ K=>?_;refine YG (k:=2) rfl K M rfl rfl rfl UH (hA100.cell) rfl fun _ M=>?_;have Mp:=Mq;have Mq:=M;refine QF ?_;show W _ _ _ _ _ _ _;refine Qb 3 K M fun _ K=>?_;replace B:=B.step M;obtain⟨Fr,B⟩:=Qk.ZD (L:=((c99,0,[.bool (anyS YF q)])::(c90,0,[kw])::(c13,0,[iZ (a.tr-1:Nat),ks100,ks91])::(c36,0,[iZ 0])::(A100++(A91++(Ag++[]))))) (A:=Aw) (B:=[]) (B.cast U0) hAw (hP2.Fx hL2);replace B:=B.cast (M':=((c99,0,[.bool (anyS YF q)])::(c90,0,[kw])::(c13,0,[iZ (a.tr-1:Nat),ks100,ks91])::(c36,0,[iZ 0])::(A100++(A91++(Ag++[]))))) U0;have M:=B.mem;have hi2:=Ux htk Qc
  have htq:L.take (i+1)=L.take i++[q]:=by rw[List.take_add_one,hqi];rfl
  exact⟨_,Qc,i+1,L2,F2,(LLr++[row]),_,_,ks100,A100,ks91,A91,rfl,(K.sub rfl),(B.step M).less (.cons _ (.cons _ (.cons_cons _ (.cons_cons _ (List.Sublist.append_left (List.Sublist.append_left (List.nil_sublist _) _) _))))),(hP2.whole Qc),(by rw[List.length_append,hLL];rfl),hi2,hL2,(by rw[htk,htq,List.map_append,XS];exact hA100),hA91⟩
 refine QM ?_;show W _ _ _ _ _ _ _;refine Qb 1 K M fun _ K=>?_;replace B:=B.step M;have hti:L.take i=L:=List.take_of_length_le Qc;rw[hti]at hAa;have hMd:=hP.made (p:=anyS YF) (m:=⟨a.tr-1,L.map (anyS YF),LLr⟩) (by show LLr.length=_;omega) rfl (by show a.tr-1≤6;omega) hL;obtain⟨Fo,B⟩:=Qk.Bt (L:=((c13,0,[iZ (a.tr-1:Nat),ka,kr])::(c36,0,[iZ 0])::(Aa++[]))) (A:=Ar) (B:=[]) (B.cast U0) hAr;replace B:=B.cast (M':=((c13,0,[iZ (a.tr-1:Nat),ka,kr])::(c36,0,[iZ 0])::(Aa++[]))) U0;have M:=B.mem;obtain⟨v103,st103,ev103,dp2,F2,rfl,hD2,nf2,q103⟩:=Ed (a:=⟨a.tr-1,L.map (anyS YF),LLr⟩) B.fresh hMd.wf (Mem.Y6 (L:=[(c13,0,[iZ (a.tr-1:Nat),ka,kr]),(c36,0,[iZ 0])]) (A:=Aa) (B:=[]) M hAa) (Xw.r (B.at_ (k:=0) rfl));refine p1 K (Qg rfl ev103) fun _ K=>?_;have hle0:=B.le;replace B:=B.quiet q103;have M:=B.mem;refine Qb 4 K M ?_;exact⟨⟨YF,hcl,.inl ⟨dp2,F2,L,_,rfl,hD2,fun c hc=>⟨Nat.le_trans hle0 (nf2 c hc).1,(nf2 c hc).2⟩,rfl,hMd,(B.vY (k:=2) rfl).met⟩⟩,B.JN⟩
end
end Go.Proofs.YtiknomepbklibaaGreatDoor
