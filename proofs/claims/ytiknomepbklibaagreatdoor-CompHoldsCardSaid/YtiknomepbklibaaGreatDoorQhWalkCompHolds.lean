/-
  A word's sets, one letter after the other, one track after the other.
-/
import Derived.Test.YtiknomepbklibaaGreatDoorQhHol
set_option maxRecDepth 100000
set_option linter.unnecessarySimpa false
set_option linter.unusedSimpArgs false
set_option linter.unusedVariables false
namespace Go.Proofs.YtiknomepbklibaaGreatDoor
section
open Go Go.RowKit
variable {i k:Nat} {w:List Nat}

def Y0(w:List Nat)(k i kk:Nat):List Nat:=(List.range k).map fun v=>Zt v (w.take (if v<kk then i+1 else i))
theorem V1(w:List Nat)(k i kk:Nat):(Y0 w k i kk).length=k:=by simp[Y0]
theorem Dd(w:List Nat)(k:Nat):Y0 w k 0 0=List.replicate k 0:=by
 apply List.ext_getElem?;intro v;simp only[Y0,List.getElem?_map,List.getElem?_replicate]
 by_cases h:v<k
 ·rw[List.getElem?_range h,if_pos h];rfl
 ·rw[List.getElem?_eq_none (by simpa using h),if_neg h];rfl
theorem LX{kk:Nat}(h:kk<k):(Y0 w k i kk)[kk]? =some (Zt kk (w.take i)):=by
 simp[Y0,List.getElem?_range h]
theorem Ra{kk:Nat}(h:kk<k):(Y0 w k i kk).set kk (Zt kk (w.take (i+1)))=Y0 w k i (kk+1):=by
 apply List.ext_getElem?;intro v;rw[List.getElem?_set]
 by_cases hv:v<k
 ·by_cases e:kk=v
  ·subst e;rw[if_pos rfl,if_pos (by rw[V1];exact hv)];simp[Y0,List.getElem?_range hv]
  ·rw[if_neg e];simp only[Y0,List.getElem?_map,List.getElem?_range hv,Option.map_some]
   by_cases h2:v<kk
   ·rw[if_pos h2,if_pos Qc]
   ·rw[if_neg h2,if_neg Qc]
 ·rw[List.getElem?_eq_none (by rw[V1];omega)]
  split
  ·omega
  ·exact(List.getElem?_eq_none (by rw[V1];omega)).symm
theorem De(w:List Nat)(k i:Nat):Y0 w k i k=Y0 w k (i+1) 0:=by
 unfold Y0;refine List.map_congr_left fun v hv=>?_;rw[if_pos (List.mem_range.1 hv),if_neg (Nat.not_lt_zero v)]
theorem Me{l:Nat}(h:w[i]? =some l):w.take (i+1)=w.take i++[l]:=by
 obtain⟨h1,h2⟩:=List.getElem?_eq_some_iff.1 h;rw[List.take_add_one,h];rfl
theorem Rb{l v:Nat}(h:w[i]? =some l):Zt v (w.take i)|||l/2^v % 2 *2^i=Zt v (w.take (i+1)):=by
 have hl:=(List.getElem?_eq_some_iff.1 h).1;have:=xo (v:=v) (l:=l) (w:=w.take i);rw[List.length_take,Nat.min_eq_left (Nat.le_of_lt hl)]at this;rw[Me h,←this];rfl
theorem LY(w:List Nat)(k:Nat):Y0 w k w.length 0=(List.range k).map fun v=>Zt v w:=by
 unfold Y0;refine List.map_congr_left fun v hv=>?_;rw[if_neg (Nat.not_lt_zero v),List.take_length]
theorem Mt(h:VO 1 w)(v:Nat):Zt v w=0:=by
 induction w with
 |nil=>rfl
 |cons l w ih=>
  have h0:l=0:=by have:=h l Q7;omega
  rw[Zt,ih fun c hc=>h c (by simp[hc]),h0];simp[Hi]
theorem Ms(h:w.length≤14): ∀a∈Y0 w k w.length 0,a<65536:=fun a ha=>by
 rw[LY]at ha;obtain⟨v,_,rfl⟩:=List.mem_map.1 ha;have h1:=Lm v w;have h2:=Nat.pow_le_pow_right (show 0<2 by decide) h;omega
theorem RQ{S S':Nat→Nat}{x:Cr}: ∀{m:Int},QX x m=true→Yi x=true→(∀v:Nat,v=0∨(v:Int)<m→S v=S' v)→QD S x=QD S' x:=by
 refine E7 (M:=fun x=> ∀{m:Int},QX x m=true→Yi x=true→(∀v:Nat,v=0∨(v:Int)<m→S v=S' v)→QD S x=QD S' x) (fun o a b g n l ih=>?_) x;intro m hc hf hS
 have hne:o≠[101,120]∧XG l=true:=by
  rw[Yi]at hf;simp only[Bool.and_eq_true,decide_eq_true_eq]at hf;exact⟨hf.2,hf.1⟩
 have hk: ∀y∈l,QD S y=QD S' y:=fun y hy=>by
  have h1:=(VH hc hy).1;rw[if_neg hne.1]at h1
  have h2:Yi y=true:=by
   have hfl:=hne.2;clear ih hc hf hne h1
   induction l with
   |nil=>cases hy
   |cons z l ih2=>
    rw[XG,Bool.and_eq_true]at hfl;rcases List.mem_cons.1 hy with rfl|hy
    ·exact hfl.1
    ·exact ih2 hy hfl.2
  exact ih y hy h1 h2 hS
 have hL:EG S l=EG S' l:=by
  clear ih hc hf
  induction l with
  |nil=>rfl
  |cons z l ih2=>rw[EG,EG,hk z Q7,ih2 ⟨hne.1,by have:=hne.2;rw[XG,Bool.and_eq_true]at this;exact this.2⟩ fun y hy=>hk y (by simp[hy])]
 have fld: ∀{h:List Nat} {q:Nat} {v n:Int},JM h q v n=true→v.toNat=0∨(v.toNat:Int)<n:=fun{h q v n} hf=>by
  unfold JM at hf
  split at hf<;>simp at hf<;>omega
 have hflds:S a.toNat=S' a.toNat∧S b.toNat=S' b.toNat∧S g.toNat=S' g.toNat:=by
  rw[QX]at hc;simp only[Bool.and_eq_true]at hc;have h4:=hc.2.2.2;rw[if_neg hne.1]at h4;simp only[Bool.and_eq_true]at h4;exact⟨hS _ (fld h4.1),hS _ (fld h4.2.1),hS _ (fld h4.2.2.1)⟩
 rw[QD,QD,hL,hflds.1,hflds.2.1,hflds.2.2]
theorem Jx.qm{x:Cr}{s:Nat}{m:Au}(h:Jx x k m s)(hk:k≤6)(hc:QX x ((k:Nat):Int)=true)(hf:Yi x=true)(hw:VO (2^k) w):m.ok (m.run 0 w)=QD (fun v=>((Y0 w k w.length 0)[v]?).getD 0) x:=by
 rw[h.holds hk hc hf hw];refine RQ hc hf fun v hv=>?_;rw[LY]
 by_cases e:v<k
 ·simp[List.getElem?_range e]
 ·have hk0:k=0:=by omega
  subst hk0;rw[Mt hw];simp
end
section
open Go Go.RowKit
set_option maxHeartbeats 8000000

theorem RP{R:Ee}{st:St}(hf:Qi st)(hR:Y8 R st.h.get){o:List Nat}{a b g n:Int}{l:List Cr}{cs:List AV}(hr:ZO R (.mk o a b g n l) cs){sets:List Nat}{ks:AV}{bd:Nat}(hks:Jj st.h.get [] 1 (zC (zN sets)) ks)(hsl: ∀a∈sets,a<65536)(hfb:Yi (.mk o a b g n l)=true)(his:wa (.mk o a b g n l) ((sets.length:Nat):Int)=true)(hbd:bd≤8): ∃v st',Jh 32 [.agg cs,ks,iN bd] st v st'∧v=.bool (QD (Gg sets) (.mk o a b g n l))∧Qt st st':=by
 have hr0:=hr;obtain⟨kc,ls,rfl,hK⟩:=hr.U5;have hln:=hK.ln;have hbn:=hK.Wv;obtain⟨_,hkx,hk6,_,hc⟩:=RK his;rw[←hkx]at hc;have hkc:=hks.cell;have hkb:=hks.Wv;rw[Qq,List.length_map]at hkb;have B:=Qk.start hf;refine JA Tryz.func32 Tryz.ntmps32 fun T K=>?_;have M:=B.mem;refine Qb 0 K M fun _ K=>?_;refine Ju K M rfl (Qa rfl (Qa rfl (Qa rfl (Qa rfl (Qa rfl (Qa hK.cell Q4)))))) Q9 fun c3 _ _ K M=>?_;refine Qb 3 K M fun _ K=>?_;refine Uj K rfl (fun _ e10 K=>?_) fun _ e10 K=>?_
 ·refine Qb 3 K M fun _ K=>?_;refine Uj K rfl (fun _ e14 K=>?_) fun _ e14 K=>?_
  ·refine Qb 2 K M fun _ K=>?_;refine pg K rfl rfl (Q5 Ja rfl rfl (hks.len.trans (congrArg some (by rw[Qq,List.length_map])))) fun _ K=>?_;obtain⟨v18,st18,ev18,hv18,q18⟩:=Du M.fresh (fun c m r hr=>(B.step M).UI hf (hR c m r hr) (fun h=>h)) hr0 ((sets.length:Nat):Int);refine pg K rfl rfl (Qg rfl ev18) fun _ K=>?_;rw[his]at hv18;subst hv18;replace M:=M.quiet q18;refine Qb 4 K M fun _ K=>?_;refine QY (fun mm1 T st9=> ∃(i:Nat),mm1=sets.length-i∧QT [(1,ks),(2,iN bd),(3,.ptr c3 0 0),(7,iN i)] T∧Qk st Xi st9 [(c3,0,[.str o,iZ a,iZ b,iZ g,iZ n,kc])] []∧i≤sets.length) (fun mm1 T st9 hI=>?_) _ _ _ ⟨0,rfl,(K.sub rfl),(B.step M).less (.refl _),(Nat.zero_le _)⟩;obtain⟨i,rfl,K,B,hi⟩:=hI;have M:=B.mem;refine Qb 2 K M fun _ K=>?_;refine p1 K (Q5 Ja rfl rfl (hks.len.trans (congrArg some (by rw[Qq,List.length_map])))) fun _ K=>?_;refine Qb 1 K M fun _ K=>?_;refine Jy K rfl (fun h24=>?_) fun h24=>?_
   ·refine Qb 2 K M fun _ K=>?_;obtain⟨y29,hi29⟩:=Uw sets i Qc;have hyb29:=hsl y29 (List.mem_of_getElem? hi29);refine oI ((B.step M).FF hf hks) (Xq hi29) K Qo Qn rfl rfl rfl fun _ _ _ _ K=>?_;refine Qb 1 K M fun _ K=>?_;refine Uj K rfl (fun _ e32 K=>?_) fun _ e32 K=>?_
    ·refine Qb 2 K M fun _ K=>?_;obtain⟨x35,m35,f35,q35,_,la35,lo35,lp35⟩:=((B.step M).FF hf hks).load (i:=i) (cs:=_) (Xq hi29);refine pg K rfl rfl (Qe (j:=i) Qo (congrArg some q35) rfl (by rw[Qq,List.length_map];omega)) fun _ K=>pg K rfl rfl (Qf rfl (lo35 _ 0 _ Qn rfl)) fun _ K=>?_;refine Qb 2 K M fun _ K=>?_;refine Jy K rfl (fun h38=>?_) fun h38=>?_
     ·exfalso;omega
     refine Qb 3 K M fun _ K=>?_;exact⟨_,Qc,i+1,rfl,(K.sub rfl),(B.step M).less (.refl _),Qc⟩
    exfalso;omega
   refine QM ?_;show W _ _ _ _ _ _ _;refine Qb 3 K M fun _ K=>?_;refine oQ K M (qn _ sets ks bd R _ _ M.fresh (fun c m r hr=>(B.step M).UI hf (hR c m r hr) (fun h=>h)) hr0 ((B.step M).FF hf hks) hsl hfb hc hbd) rfl rfl fun _ _ K M=>?_;refine Qb 1 K M ?_;exact⟨rfl,(B.step M).qt⟩
  exfalso;omega
 exfalso;omega

theorem jb(l:List Nat):(zN l).map Int.toNat=l:=by
 unfold zN;rw[List.map_map];exact(List.map_congr_left fun x _=>Int.toNat_natCast x).trans (List.map_id l)
theorem SA(l:List Nat):(zN l).length=l.length:=by simp[zN]
theorem Vi{w:List Nat}{k i kk y:Nat}(h:(Y0 w k i kk)[kk]? =some y)(hk:kk<k)(hi:i≤14):y<16384:=by
 rw[LX hk]at h
 injection h with h
 have h1:=Lm kk (w.take i);have h2:=Nat.pow_le_pow_right (show 0<2 by decide) (show(w.take i).length≤14 by rw[List.length_take];omega);omega

theorem Ct{R:Ee}{st:St}(hf:Qi st)(hR:Y8 R st.h.get){o:List Nat}{a b g n:Int}{l:List Cr}{cs:List AV}(hr:ZO R (.mk o a b g n l) cs)(m:Int){w:List Int}{kw:AV}(hw:Jj st.h.get [] 1 (zC w) kw): ∃v st',Jh 7 [.agg cs,iZ m,kw] st v st'∧v=.bool true:=by
 have hr0:=hr;obtain⟨kc,ls,rfl,hK⟩:=hr.U5;have hln:=hK.ln;have hbn:=hK.Wv
 have hbnw:(w.length:Int)≤9223372036854775807:=by have:=hw.Wv;rw[Qq]at this;exact this
 have hwc:=hw.cell;have B:=Qk.start hf;refine JA Tryz.func7 Tryz.ntmps7 fun T K=>?_;have M:=B.mem;refine Qb 0 K M fun _ K=>?_;refine Ju K M rfl (Qa rfl (Qa rfl (Qa rfl (Qa rfl (Qa rfl (Qa hK.cell Q4)))))) Q9 fun c3 _ _ K M=>?_;refine Qb 3 K M fun _ K=>?_;replace B:=B.step M;obtain⟨v19,st19,ev19,hof1,q19⟩:=uQ B.fresh (fun c m r hr=>B.UI hf (hR c m r hr) (fun h=>h)) hr0 m;refine p1 K (Qg rfl ev19) fun _ K=>?_;obtain⟨t1,ka1,kn1,ok1,F1,m1,s1,rfl,hka1,hkn1,hnf1,hq1⟩:=hof1;replace B:=B.new (o:=FK F1 (!ok1) m1 ka1 kn1) q19 (fun hb=>(hq1 (by simpa using hb)).2.2.1) hnf1;have M:=B.mem;refine au 4 K M ?_;intro c7 _ _ K _ M;refine QW (k:=0) K M rfl rfl rfl QA rfl (Qa rfl (Qa hka1 (Qa hkn1 Q4))) rfl fun _ M=>?_;refine Qb 3 K M fun _ K=>?_;refine oB K (Q0 rfl) rfl fun b24 _ e24 K=>?_;cases b24
 · replace e24:(ok1)=true:=by simpa using e24
   refine Qb 1 K M fun _ K=>?_;obtain⟨v26,st26,ev26,rfl,q26⟩:=qp (.mk o a b g n l) R _ _ M.fresh (fun c m r hr=>(B.step M).UI hf (hR c m r hr) (fun h=>h)) hr0;refine pg K rfl rfl (Qg rfl ev26) fun _ K=>?_;replace M:=M.quiet q26;refine Qb 2 K M fun _ K=>?_;refine oB K (Q0 rfl) rfl fun b29 _ e29 K=>?_;cases b29
   · replace e29:(Yi (.mk o a b g n l))=true:=by simpa using e29
     refine Qb 1 K M fun _ K=>?_;refine pg K rfl rfl (Q5 Ja rfl rfl (hw.len.trans (congrArg some (Qq _)))) fun _ K=>?_;refine Qb 2 K M fun _ K=>?_;refine Jy K rfl (fun h33=>?_) fun h33=>?_
     · refine Qb 1 K M ?_
       first
        |rfl
        |(exfalso;omega)
        |(exfalso;simp_all;done)
        |(simp;omega)
     refine Qb 0 K M fun _ K=>?_;obtain⟨hsz1,his1,-,hA1,hs1,rfl⟩:=hq1 (by simp_all);obtain⟨k,rfl,hk6,-,hc1⟩:=RK his1;rw[Int.toNat_natCast]at hA1;replace B:=(B.step M).view (k:=0) (o':=FK F1 false m1 ka1 kn1) rfl (fun _=>(B.step M).at_ (k:=0) rfl (by simp_all)) (fun c hc=>hc);have hkl1:=Xh.len (B.at_ (k:=0) rfl rfl);have hknl1:=Xh.uL (B.at_ (k:=0) rfl rfl);have M:=B.mem;have wf1:=hA1.wf;have htr1:=hA1.tr;have hge1:=hA1.ge;have hps1:=hA1.pos;have hmn1:=wf1.most;have hacl1:m1.acc.length=m1.n:=rfl;have hfb:=e29;refine Qb 1 K M fun _ K=>?_;refine LC (fun z:Nat=>iN z) 0 (n:=k) K M QJ XL rfl Qc rfl fun c35 _ _ K M=>?_;refine Qb 2 K M fun _ K=>?_;refine QY (fun mm1 T st9=> ∃(i:Nat) (ls:List Nat),mm1=w.length-i∧QT [(1,iN k),(2,kw),(3,.ptr c3 0 0),(9,.sl c35 0 0 k 1),(10,iN i)] T∧Qk st Xi st9 [(c35,0,(ls.map (fun z=>iN z))),(c7,0,[iZ (m1.tr:Nat),ka1,kn1]),(c3,0,[.str o,iZ a,iZ b,iZ g,iZ n,kc])] [FK F1 false m1 ka1 kn1]∧i≤w.length∧ls=Y0 (w.map Int.toNat) k i 0∧(∀(j:Nat) (c:Int),j<i→w[j]? =some c→0≤c∧c<((2^k:Nat):Int))) (fun mm1 T st9 hI=>?_) _ _ _ ⟨0,_,rfl,(K.sub rfl),(B.step M).less (.refl _),(Nat.zero_le _),(Dd _ _).symm,(fun j c hj=>absurd hj (Nat.not_lt_zero j))⟩;obtain⟨i,ls,rfl,K,B,hi,hls,hlet⟩:=hI;have M:=B.mem
     have hll:ls.length=k:=by rw[hls,V1]
     refine Qb 2 K M fun _ K=>?_;refine p1 K (Q5 Ja rfl rfl (hw.len.trans (congrArg some (Qq _)))) fun _ K=>?_;refine Qb 1 K M fun _ K=>?_;refine Jy K rfl (fun h39=>?_) fun h39=>?_
     · refine Qb 2 K M fun _ K=>?_;obtain⟨y44,hi44⟩:=Uw w i Qc;refine oI ((B.step M).FF hf hw) (Jm hi44) K Qo Qn rfl rfl rfl fun _ _ _ _ K=>?_;refine Qb 1 K M fun _ K=>?_;refine Uj K rfl (fun _ e47 K=>?_) fun _ e47 K=>?_
       · refine Qb 2 K M fun _ K=>?_;obtain⟨x50,m50,f50,q50,_,la50,lo50,lp50⟩:=((B.step M).FF hf hw).load (i:=i) (cs:=_) (Jm hi44);refine pg K rfl rfl (Qe (j:=i) Qo (congrArg some q50) rfl (by rw[Qq];omega)) fun _ K=>pg K rfl rfl (Qf rfl (lo50 _ 0 _ Qn rfl)) fun _ K=>?_;refine Qb 1 K M fun _ K=>?_;refine pg K rfl rfl (U9 (c:=((k:Nat):Int)) UT U1 rfl (IntWalk.u64_in _ Qc)) fun _ K=>pg K rfl rfl (UU (n:=k) rfl rfl Qc) fun _ K=>?_;refine Qb 2 K M fun _ K=>?_;refine Jy K rfl (fun h56=>?_) fun h56=>?_
         · refine Qb 1 K M ?_
           first
            |rfl
            |(exfalso;omega)
            |(exfalso;simp_all;done)
            |(simp;omega)
         refine Qb 0 K M fun _ K=>?_;obtain⟨ln44,rfl⟩: ∃m:Nat,y44=((m:Nat):Int):=⟨y44.toNat,by omega⟩
         have hwn:(w.map Int.toNat)[i]? =some ln44:=by rw[List.getElem?_map,hi44];rfl
         have hlk:ln44<2^k:=by omega
         have hp6:=J9 (T:=k) hk6;have hp14:2^i≤16384:=Nat.pow_le_pow_right (show 0<2 by decide) (show i≤14 by omega);refine Qb 1 K M fun _ K=>?_;refine QY (fun mm2 T st9=> ∃(kk:Nat) (ls2:List Nat),mm2=k-kk∧QT [(1,iN k),(2,kw),(3,.ptr c3 0 0),(9,.sl c35 0 0 k 1),(10,iN i),(11,iN kk),(39,.bool (decide (((i:Nat):Int)<((w.length:Nat):Int))))] T∧Qk st Xi st9 [(c35,0,(ls2.map (fun z=>iN z))),(c7,0,[iZ (m1.tr:Nat),ka1,kn1]),(c3,0,[.str o,iZ a,iZ b,iZ g,iZ n,kc])] [FK F1 false m1 ka1 kn1]∧kk≤k∧ls2=Y0 (w.map Int.toNat) k i kk) (fun mm2 T st9 hI=>?_) _ _ _ ⟨0,_,rfl,(K.sub rfl),(B.step M).less (.refl _),(Nat.zero_le _),hls⟩;obtain⟨kk,ls2,rfl,K,B,hkk,hls2⟩:=hI;have M:=B.mem
         have hll2:ls2.length=k:=by rw[hls2,V1]
         refine Qb 3 K M fun _ K=>?_;refine Jy K rfl (fun h59=>?_) fun h59=>?_
         · refine Qb 0 K M fun _ K=>?_;refine QC (l:=[(0,0),(1,0),(2,0),(3,0),(4,0),(5,0),(6,0),(7,0),(8,0),(9,0),(10,0),(11,0),(12,0),(13,0),(14,0),(15,0),(16,0),(17,0),(18,0),(19,0)]) (by kernel_rfl) ?_;refine Jo 4 K M fun _ K=>?_;obtain⟨y66,hi66⟩:=Uw ls2 kk Qc;refine q1 rfl K (Qe (j:=kk) Qo rfl rfl Qc) fun _ K=>q1 rfl K (Qf rfl (M.load (k:=0) rfl (Qd Qn (V5 (fun z=>iN z) hi66)))) fun _ K=>?_;refine Jo 2 K M fun _ K=>?_;refine dI rfl rfl ((B.step M).FF hf hw) (Jm hi44) K Qo Qn rfl rfl rfl fun _ _ _ _ K=>?_;refine q1 rfl K (Q0 rfl) fun _ K=>q1 rfl K (U9 (c:=((kk:Nat):Int)) UT U1 rfl (IntWalk.u64_in _ Qc)) fun _ K=>q1 rfl K (ZV (a:=ln44) (n:=kk) rfl rfl Qc) fun _ K=>q1 rfl K (Zz (a:=(ln44/2^kk)) rfl rfl (by first|omega|exact Nat.le_trans (Nat.div_le_self _ _) Qc|(have hyq:=Vi (hls2▸hi66) Qc Qc;have hxq:=Nat.mul_le_mul (show ln44/2^kk % 2≤1 by omega) hp14;omega))) fun _ K=>q1 rfl K (Q0 rfl) fun _ K=>q1 rfl K (U9 (c:=((i:Nat):Int)) UT U1 rfl (IntWalk.u64_in _ Qc)) fun _ K=>q1 rfl K (Ls (a:=((ln44/2^kk) % 2)) (n:=i) rfl rfl Qc (by first|omega|exact Nat.le_trans (Nat.div_le_self _ _) Qc|(have hyq:=Vi (hls2▸hi66) Qc Qc;have hxq:=Nat.mul_le_mul (show ln44/2^kk % 2≤1 by omega) hp14;omega))) fun _ K=>q1 rfl K (BJ (a:=y66) (b:=(((ln44/2^kk) % 2) *2^i)) rfl rfl (by first|omega|exact Nat.le_trans (Nat.div_le_self _ _) Qc|(have hyq:=Vi (hls2▸hi66) Qc Qc;have hxq:=Nat.mul_le_mul (show ln44/2^kk % 2≤1 by omega) hp14;omega)) (by first|omega|exact Nat.le_trans (Nat.div_le_self _ _) Qc|(have hyq:=Vi (hls2▸hi66) Qc Qc;have hxq:=Nat.mul_le_mul (show ln44/2^kk % 2≤1 by omega) hp14;omega))) fun _ K=>?_;obtain⟨y80,hi80⟩:=Uw ls2 kk Qc;refine q1 rfl K (Qe (j:=kk) Qo rfl rfl Qc) fun _ K=>?_;refine YG (k:=0) rfl K M rfl rfl rfl I7 rfl (Wn (fun z=>iN z) ((y66|||(((ln44/2^kk) % 2) *2^i))) Qc) fun _ M=>?_;refine QF ?_;show W _ _ _ _ _ _ _;refine Qb 3 K M fun _ K=>?_;exact⟨_,Qc,kk+1,_,rfl,(K.sub rfl),(B.step M).less (.refl _),Qc,(by rw[hls2]at hi66 ⊢;rw[LX Qc]at hi66;injection hi66 with hi66;subst hi66;rw[Rb hwn];exact Ra Qc)⟩
         refine QM ?_;show W _ _ _ _ _ _ _;refine Qb 3 K M fun _ K=>?_;exact⟨_,Qc,i+1,_,rfl,(K.sub rfl),(B.step M).less (.refl _),Qc,(by rw[hls2];obtain rfl:kk=k:=Qc;exact De _ _ _),(E5 hlet hi44 Qc)⟩
       refine Qb 11 K M ?_
       first
        |rfl
        |(exfalso;omega)
        |(exfalso;simp_all;done)
        |(simp;omega)
     refine QM ?_;show W _ _ _ _ _ _ _;refine Jz ?_
     obtain rfl:i=w.length:=by omega
     obtain⟨wn,hwz,hwk⟩:=aH (at_mem (Nat.le_refl _) hlet);rw[hwz,jb,SA]at hls
     have hwl:wn.length≤14:=by have h9:=congrArg List.length hwz;rw[SA]at h9;omega
     have hwm:VO m1.K wn:=by unfold Au.K;rw[htr1];exact hwk
     have hfin:m1.ok (m1.run 0 wn)=QD (Gg ls) (.mk o a b g n l):=by rw[hls];exact hA1.qm hk6 hc1 hfb hwk
     have hsl: ∀a∈ls,a<65536:=by rw[hls];exact Ms hwl
     refine QC (l:=[(2,0),(0,1),(1,0),(3,0),(4,0),(5,0),(6,0),(7,0),(8,0)]) (by kernel_rfl) ?_;have Mq:=M;have Bq:=B;replace B:=B.step M;obtain⟨v84,st84,ev84,mp84,rfl,hmp84,hrmp84,q84⟩:=uG B.fresh 1073741824;refine qA rfl K (Qg rfl ev84) fun _ K=>?_;have hzmp84:st.n≤mp84:=Nat.le_trans B.le hmp84;replace B:=B.new (o:=Yt mp84 1073741824 false) q84 hrmp84 (fun c hc=>by rw[show c=mp84 from hc];exact⟨hmp84,hrmp84.lt q84.fresh⟩);have M:=B.mem;have Mp:=Mq;have Mq:=M;have Bp:=Bq;have Bq:=B;refine Jt rfl K rfl (M.load (k:=2) rfl (QN Jg rfl)) (Mp.load (k:=2) rfl (QN Jg rfl)) (Il (by simp[A8,A9,WU,Uo hK.len])) rfl Q9 fun _ K=>?_;refine q1 rfl K (Q0 rfl) fun _ K=>?_;replace B:=B.step M;have B0:=B;obtain⟨v85,st85,ev85,dp85,Fd85,rfl,hDd85,hNd85,hRd85,QB⟩:=qD B.fresh (fun c m r hr=>B.UI hf (hR c m r hr) (fun h=>h)) hr0 (fun c m r hr=>by have:=hR.lt hf hr;omega) (show Qy _ mp84 0 [iZ ((1073741824:Nat):Int),.bool false]from B.at_ (k:=0) rfl) Qc hk6 hc1 Qc hA1 Qc;refine qA rfl K (Qg rfl ev85) fun _ K=>?_;replace B:=B.call (k:=0) (o':=Yt mp84 (1073741824-s1) false) rfl QB hRd85 (UD fun c hc=>Nat.lt_of_lt_of_le (B.Y4 (k:=0) rfl c hc) QB.le);replace B:=B0.Zr (k:=0) (o:=Ip Fd85 dp85 m1) (om':=Yt mp84 (1073741824-s1) false) rfl rfl (B.Xc Q7) hDd85.at_ hNd85;have M:=B.mem;have Mp:=Mq;have Mq:=M;have Bp:=Bq;have Bq:=B;refine Jo 5 K M fun _ K=>?_;refine QF ?_;show W _ _ _ _ _ _ _;refine Qb 2 K M fun _ K=>?_;refine zI K rfl (fun _ e90 K=>?_) fun _ e90 K=>?_
     · refine Qb 1 K M fun _ K=>?_;refine pg K rfl rfl (Yh JZ rfl rfl) fun _ K=>?_;refine Qb 4 K M fun _ K=>?_;have hrz:=Dl m1 wn 0 hwm;obtain⟨v97,st97,ev97,hv97,q97⟩:=eQ M.fresh ((B.step M).ja (k:=0) rfl) ((B.step M).FF hf hw);refine p1 K (Qg rfl ev97) fun _ K=>?_;rw[hwz,hrz]at hv97;subst hv97;replace M:=M.quiet q97;refine Qb 8 K M fun _ K=>?_;have hrl103:Jj _ [] 1 (zC (zN ls)) _:=(by have h0:=Qy.fP (f:=fun z:Nat=>iN z) ((B.step M).row _ _ _ (List.mem_of_getElem? (i:=0) rfl)) hll Qc;rw[show zC (zN ls)=ls.map fun x=>[iN x] by simp[zC,zN]];exact h0);refine oQ K M (RP M.fresh (fun c m r hr=>(B.step M).UI hf (hR c m r hr) (fun h=>h)) hr0 (bd:=0) hrl103 hsl hfb (by rw[hll];exact his1) Q9) rfl rfl fun _ _ K M=>?_;refine p1 K (Z4 Yv rfl rfl) fun _ K=>?_;refine oB K (Q0 rfl) rfl fun b105 _ e105 K=>?_;cases b105
       · refine Qb 3 K M ?_
         first
          |rfl
          |(exfalso;omega)
          |(exfalso;simp_all;done)
          |(simp;omega)
       have ev106:=RD;refine pg K rfl rfl (Qg rfl (ev106 _)) fun _ K=>?_;refine Qb 2 K M ?_
       first
        |rfl
        |(exfalso;omega)
        |(exfalso;simp_all;done)
        |(simp;omega)
     refine Qb 5 K M ?_
     first
      |rfl
      |(exfalso;omega)
      |(exfalso;simp_all;done)
      |(simp;omega)
   replace e29:(Yi (.mk o a b g n l))=false:=by simpa using e29
   refine Qb 6 K M ?_
   first
    |rfl
    |(exfalso;omega)
    |(exfalso;simp_all;done)
    |(simp;omega)
 replace e24:(ok1)=false:=by simpa using e24
 refine Qb 11 K M ?_
 first
  |rfl
  |(exfalso;omega)
  |(exfalso;simp_all;done)
  |(simp;omega)
end
section
open Go Go.RowKit
variable {h:Hp} {xs:List AV}

theorem wA:Tryz.prog.underlying 42=some (.slice 44):=by kernel_rfl
theorem wi:Tryz.prog.cellsOf 44=6:=by kernel_rfl
theorem aL: ∃f0 f1 f2 f3 f4 f5:Field,Tryz.prog.underlying 44=some (.struct #[f0,f1,f2,f3,f4,f5])∧(f0.type=9∧f0.offset=0)∧(f1.type=3∧f1.offset=1)∧(f2.type=3∧f2.offset=2)∧(f3.type=3∧f3.offset=3)∧(f4.type=3∧f4.offset=4)∧(f5.type=42∧f5.offset=5):=
 ⟨_,_,_,_,_,_,Tryz.underlying44,⟨rfl,rfl⟩,⟨rfl,rfl⟩,⟨rfl,rfl⟩,⟨rfl,rfl⟩,⟨rfl,rfl⟩,⟨rfl,rfl⟩⟩
theorem iC:Tryz.prog.cellsOf 9=1∧Tryz.prog.cellsOf 3=1∧Tryz.prog.cellsOf 42=1:=⟨by kernel_rfl,by kernel_rfl,by kernel_rfl⟩
theorem xy{H:Type}{d:DataW H}(r:Rd Tryz.prog h 9 xs d): ∃s,xs=[.str s]:=by
 have u:Tryz.prog.underlying 9=some .string:=by kernel_rfl
 cases r with
 |bool ht=>rw[u]at ht;cases ht
 |int ht hw=>rw[u]at ht;cases ht
 |str ht hs=>exact⟨_,rfl⟩
 |nil ht=>rw[u]at ht;cases ht
 |none ht=>rw[u]at ht;cases ht
 |row ht hz hr hl' he hm hd=>rw[u]at ht;cases ht
 |agg ht hl' hp hd=>rw[u]at ht;cases ht
theorem jI{H:Type}{t:TypeId}{d:DataW H}(r:Rd Tryz.prog h t xs d):
  (t=44→ ∃k,ZO (Yu h) k xs)∧(t=42→ ∃ks,xs=[ks]∧ ∀o a b g n,∃kids,ZO (Yu h) (.mk o a b g n kids) [.str o,.int .i64 a,.int .i64 b,.int .i64 g,.int .i64 n,ks]):=by
 obtain⟨f0,f1,f2,f3,f4,f5,uN,⟨t0,o0⟩,⟨t1,o1⟩,⟨t2,o2⟩,⟨t3,o3⟩,⟨t4,o4⟩,⟨t5,o5⟩⟩:=aL;have uK:=wA
 induction r with
 |bool ht=>exact⟨fun e=>(by subst e;rw[uN]at ht;cases ht),fun e=>(by subst e;rw[uK]at ht;cases ht)⟩
 |int ht hw=>exact⟨fun e=>(by subst e;rw[uN]at ht;cases ht),fun e=>(by subst e;rw[uK]at ht;cases ht)⟩
 |str ht hs=>exact⟨fun e=>(by subst e;rw[uN]at ht;cases ht),fun e=>(by subst e;rw[uK]at ht;cases ht)⟩
 |nil ht=>exact⟨fun e=>(by subst e;rw[uN]at ht;cases ht),fun _=>⟨_,rfl,fun o a b g n=>⟨[],.leaf rfl rfl⟩⟩⟩
 |none ht=>exact⟨fun e=>(by subst e;rw[uN]at ht;cases ht),fun _=>⟨_,rfl,fun o a b g n=>⟨[],.leaf rfl rfl⟩⟩⟩
 |row ht hz hr hl he hm hd ih=>
  rename_i t e c m len cells elems rest;refine⟨fun e=>(by subst e;rw[uN]at ht;cases ht),fun e2=>⟨_,rfl,fun o a b g n=>?_⟩⟩;subst e2;rw[uK]at ht
  injection ht with ht
  injection ht with ht
  subst ht;rw[wi]at hl ih ⊢
  have hk: ∀i,∃k,i<len→ZO (Yu h) k ((cells.drop (i *6)).take 6):=fun i=>by
   by_cases hi:i<len
   ·obtain⟨k,hk⟩:=(ih i elems[i] (List.getElem?_eq_getElem (he▸hi))).1 rfl;exact⟨k,fun _=>hk⟩
   ·exact⟨.mk [] 0 0 0 0 [],fun h=>absurd h hi⟩
  obtain⟨f,hf⟩:=Classical.axiomOfChoice hk
  have hlen:((List.range len).map f).length=len:=by simp
  have hmx:(len:Int)≤9223372036854775807:=by
   have h1:(maxLen:Int)≤9223372036854775807:=by decide
   omega
  refine⟨(List.range len).map f,?_⟩
  have:=ZO.node (R:=Yu h) (o:=o) (a:=a) (b:=b) (c:=g) (n:=n) (kids:=(List.range len).map f) (off:=0) hr (by rw[hlen];exact hmx) (by rw[hlen];omega) (fun i k hi=>by
   rw[List.getElem?_map]at hi
   have hlt:i<len:=by
    by_cases hi':i<len
    ·exact hi'
    ·rw[List.getElem?_eq_none (by simp;omega)]at hi;cases hi
   rw[List.getElem?_range hlt]at hi
   injection hi with hi
   rw[←hi,Nat.zero_add]
   exact hf i hlt)
  rw[hlen]at this;exact this
 |agg ht hl hp hd ih=>
  rename_i t fs xs parts;refine⟨fun e=>?_,fun e=>(by subst e;rw[uK]at ht;cases ht)⟩;subst e;rw[uN]at ht
  injection ht with ht
  injection ht with ht
  subst ht;rw[wi]at hl
  obtain⟨a0,a1,a2,a3,a4,a5,rfl⟩: ∃a0 a1 a2 a3 a4 a5,xs=[a0,a1,a2,a3,a4,a5]:=by
   match xs,hl with
   |[a0,a1,a2,a3,a4,a5],_=>exact⟨_,_,_,_,_,_,rfl⟩
  obtain⟨d0,d1,d2,d3,d4,d5,rfl⟩: ∃a0 a1 a2 a3 a4 a5,parts=[a0,a1,a2,a3,a4,a5]:=by
   match parts,hp with
   |[a0,a1,a2,a3,a4,a5],_=>exact⟨_,_,_,_,_,_,rfl⟩
  obtain⟨cs,ci,ck⟩:=iC;have r0:=hd 0 f0 d0 rfl rfl;have r1:=hd 1 f1 d1 rfl rfl;have r2:=hd 2 f2 d2 rfl rfl;have r3:=hd 3 f3 d3 rfl rfl;have r4:=hd 4 f4 d4 rfl rfl;have r5:=(ih 5 f5 d5 rfl rfl).2 t5;rw[t0,o0,cs]at r0;rw[t1,o1,ci]at r1;rw[t2,o2,ci]at r2;rw[t3,o3,ci]at r3;rw[t4,o4,ci]at r4;rw[o5,t5,ck]at r5;obtain⟨s0,e0⟩:=xy r0;obtain⟨s1,e1,_⟩:=HE r1;obtain⟨s2,e2,_⟩:=HE r2;obtain⟨s3,e3,_⟩:=HE r3;obtain⟨s4,e4,_⟩:=HE r4;obtain⟨ks,e5,hk⟩:=r5
  injection e0 with e0;injection e1 with e1;injection e2 with e2;injection e3 with e3;injection e4 with e4;injection e5 with e5
  subst e0 e1 e2 e3 e4 e5;obtain⟨kids,hk⟩:=hk s0 s1 s2 s3 s4;exact⟨_,hk⟩
theorem jH{H:Type}{d:DataW H}(r:Rd Tryz.prog h 44 xs d): ∃k,ZO (Yu h) k xs:=(jI r).1 rfl
theorem vi(h:Hp):Y8 (Yu h) h:=fun _ _ _ r=>r
theorem ZO.later{h':Hp}(hl:zA h h'){k:Cr}{cs:List AV}(r:ZO (Yu h) k cs):ZO (Yu h') k cs:=r.mono hl
theorem Ry:Nk Tryz.prog [44,9,3,42]=true:=by kernel_rfl
theorem qo{H:Type}{enc:TypeId×Value→H}{W:World}{ml:Kh}(hM:Xg W ml){v:Value}{d:DataW H}{p:List MemPlace}(h:DataW.Trod enc Tryz.prog W 0 (fun _=>true) true 44 v d p):
  ∃ml' cs k,ml<+:ml'∧Xg W ml'∧ZO (Yu (Fy ml')) k cs∧WF (Fy ml') (.agg cs)∧Qh (Nn ml') (.agg cs)=v:=by
 obtain⟨fuel,h⟩:=h;obtain⟨ml',cs,h1,h2,h3,h4,h5,h6⟩:=lift _ Ry fuel 44 _ d p ml Q7 h hM;obtain⟨k,hk⟩:=jH h6;refine⟨ml',cs,k,h1,h2,hk,h4,?_⟩;obtain⟨e1,e2⟩:=FJ h3 h5
 by_cases hv: ∃cs,v=.agg cs
 ·exact e1 hv
 ·obtain⟨a,rfl,_⟩:=e2 fun cs e=>hv ⟨cs,e⟩;obtain⟨o,a',b,g,n,l⟩:=k;obtain⟨kc,ls,e,_⟩:=hk.U5;cases e
end
section
open Go Go.RowKit

theorem LI{H:Type}{enc:TypeId×Value→H}{W:World}{v0 v2:Value}{d0 d2:DataW H}{p0 p2:List MemPlace}(h0:DataW.Trod enc Tryz.prog W 0 (fun _=>true) true 44 v0 d0 p0)(k:Int)(h2:DataW.Trod enc Tryz.prog W 0 (fun _=>true) true 54 v2 d2 p2)(n2: ∀cs,v2≠ .agg cs)(hk: -9223372036854775808≤k∧k≤9223372036854775807)(hT:EJ W):
  Calls Tryz.prog 7 #[v0,.int .i64 k,v2] W fun e w'=>e=.returned (.bool true)∧Below W.heap.size W w':=by
 obtain⟨ml1,cs,⟨o,a,b,g,n,l⟩,_,hM1,hr,hw,hc⟩:=qo Xg.nil h0;obtain⟨ml2,kb,b,p12,hM2,hb,hzb,hwb,hcb⟩:=RR hM1 h2 n2;have hr2:=ZO.later (Ln p12) hr
 have:=MH (G:=yB) (fun _=>rfl) vw mixed (f:=7) (args:=[.agg cs,.int .i64 k,kb]) hM2 ⟨WF.grow (HY p12) _ hw,trivial,hwb,trivial⟩
  (Ct (Gr ml2) (R:=Yu (Fy ml2)) (by rw[H9];exact vi _) hr2 k (by rw[H9];exact hb)) hT
 rw[show Qr (Nn ml2) [.agg cs,.int .i64 k,kb]=[v0,.int .i64 k,v2] by rw[←hc,←hcb,←yN p12 hw];rfl]at this;exact this
end
end Go.Proofs.YtiknomepbklibaaGreatDoor
