/-
  Atoms: the reference's automata of atoms.
-/
import Derived.Test.YtiknomepbklibaaGreatDoorQhR25
import Derived.Test.YtiknomepbklibaaGreatDoorQhAtm
namespace Go.Proofs.YtiknomepbklibaaGreatDoor
open Go Go.RowKit
set_option maxHeartbeats 8000000
set_option linter.unusedVariables false
set_option linter.unusedSimpArgs false
set_option linter.unnecessarySimpa false
set_option linter.unusedSectionVars false
set_option maxRecDepth 100000
variable {st:St}

theorem GD{a m:Au}{cl l:List Int}(W:Zs a)(h:ZP a cl)(ht:m.tr=a.tr)(H:UB (IX a cl) (cv cl 0) (Pt a cl) l m):JS a m:=
 have h1:=G8 W h ht H
 ⟨h1.1,h1.2,ht⟩
theorem vh{R:Ee}(hf:Qi st)(hR:Y8 R st.h.get){o:List Nat}{a b g n:Int}{l:List Cr}{cs:List AV}(hr:ZO R (.mk o a b g n l) cs){m:Int}(h0:0≤m)(h6:m≤6)(hsz:XZ (.mk o a b g n l)≤2000)(hc:QX (.mk o a b g n l) m=true): ∃v st',Jh 33 [.agg cs,.int .i64 m] st v st'∧v=.bool true∧Qt st st':=by
 obtain⟨v,st',h1,h2,h3⟩:=SS hf hR hr m;refine⟨v,st',h1,?_,h3⟩;rw[h2,decide_eq_true h0,decide_eq_true h6,decide_eq_true hsz,hc];rfl
section
variable {o:List Nat} {a b d n k s c:Nat}
def OD(o:List Nat)(a b d n s c:Nat):List Int:=(List.range c).map fun l=>((VS o n a b d s l:Nat):Int)
def Ks(o:List Nat)(a b d n k s:Nat):List (List Int):=(List.range s).map fun t=>OD o a b d n t (2^k)
def qW(o:List Nat)(n s:Nat):List Bool:=(List.range s).map (Xe o n)
theorem js(hs:s≤30)(hn:n≤20)(l:Nat):VS o n a b d s l=QR o n s (l/2^a % 2) (l/2^b % 2) (l/2^d % 2):=Nat.min_eq_left (jt hs hn)
theorem Dm:(OD o a b d n s c).length=c:=by simp[OD]
theorem Mv(hs:s≤30)(hn:n≤20):OD o a b d n s (c+1)=OD o a b d n s c++[((QR o n s (c/2^a % 2) (c/2^b % 2) (c/2^d % 2):Nat):Int)]:=by
 unfold OD;rw[List.range_succ,List.map_append,List.map_singleton,js hs hn]
theorem SO: ∀z∈OD o a b d n s c,0≤z∧z≤30:=fun z hz=>by
 obtain⟨l,_,rfl⟩:=List.mem_map.1 hz;have:=H7 (o:=o) (n:=n) (a:=a) (b:=b) (d:=d) s l;omega
theorem xw:Xx (OD o a b d n s c):=fun z hz=>by
 have:=SO z hz
 constructor<;>omega
theorem Rk:Ks o a b d n k (s+1)=Ks o a b d n k s++[OD o a b d n s (2^k)]:=by
 unfold Ks;rw[List.range_succ,List.map_append,List.map_singleton]
theorem Gw:(Ks o a b d n k s).length=s:=by simp[Ks]
theorem qV:qW o n (s+1)=qW o n s++[Xe o n s]:=by
 unfold qW;rw[List.range_succ,List.map_append,List.map_singleton]
theorem z6:(qW o n s).length=s:=by simp[qW]
theorem jB: ∀r∈Ks o a b d n k s,∀z∈r,0≤z∧z≤30:=fun r hr z hz=>by
 obtain⟨t,_,rfl⟩:=List.mem_map.1 hr;exact SO z hz
theorem Sp(l v:Nat):l/2^v % 2≤1:=Nat.le_of_lt_succ (Nat.mod_lt _ Q9)
end

theorem Cx(hf:Qi st){LL:List (List Int)}{ka kn:AV}{ls:List (List AV)}(hac:Qs ka=true)(hN:O6 st.h.get LL kn ls)(hin: ∀r∈LL,∀z∈r,0≤z∧z≤30)(hle: ∀r∈LL,r.length≤64)(hll:LL.length≤1000)(k:Nat): ∃v st',Jh 132 [.agg [iN k,ka,kn]] st v st'∧v=.agg [iN k,ka,kn]∧Qt st st':=by
 have hnc:=hN.r.cell;refine JA Tryz.func132 Tryz.ntmps132 fun T K=>?_;have M:=Mem.start hf;refine Qb 0 K M fun _ K=>?_;refine Ju K M rfl (Qa rfl (Qa hac (Qa hN.r.cell Q4))) Q9 fun c1 _ _ K M=>?_;refine au 2 K M ?_;intro c2 _ _ K _ M;refine QY (fun mm1 T st9=> ∃(i:Nat),mm1=LL.length-i∧QT [(1,.ptr c1 0 0),(2,.ptr c2 0 0),(3,iN i)] T∧Mem st.h.get st.n [] st9 [(c2,0,[iZ 0,.nils,.nils]),(c1,0,[iN k,ka,kn])]∧i≤LL.length) (fun mm1 T st9 hI=>?_) _ _ _ ⟨0,rfl,(K.sub rfl),M.less (.refl _),(Nat.zero_le _)⟩;obtain⟨i,rfl,K,M,hil⟩:=hI;refine Qb 2 K M fun _ K=>?_;refine p1 K (Qf rfl (M.load (k:=1) rfl (Qd Q8 rfl))) fun _ K=>p1 K (Q5 JT rfl rfl hN.len) fun _ K=>?_;refine Qb 1 K M fun _ K=>?_;refine Jy K rfl (fun h9=>?_) fun h9=>?_
 ·refine Qb 1 K M fun _ K=>?_;refine QY (fun mm2 T st9=> ∃(c:Nat),mm2=64-c∧QT [(1,.ptr c1 0 0),(2,.ptr c2 0 0),(3,iN i),(4,iN c),(9,.bool (decide (((i:Nat):Int)<((LL.length:Nat):Int))))] T∧Mem st.h.get st.n [] st9 [(c2,0,[iZ 0,.nils,.nils]),(c1,0,[iN k,ka,kn])]∧c≤64) (fun mm2 T st9 hI=>?_) _ _ _ ⟨0,rfl,(K.sub rfl),M.less (.refl _),Qc⟩;obtain⟨c,rfl,K,M,hc9⟩:=hI;refine Qb 2 K M fun _ K=>?_;refine p1 K (Qf rfl (M.load (k:=1) rfl (Qd Q8 rfl))) fun _ K=>?_;refine Qb 1 K M fun _ K=>?_;obtain⟨s16,hi16⟩:=Uw LL i Qc;obtain⟨_,hc16,w16,rfl,hr16,hz16⟩:=hN.at_ _ _ hi16;refine oI (Jj.mem M hN.r Q7) hc16 K QZ Jb rfl rfl rfl fun _ _ _ _ K=>?_;refine p1 K (Q5 Ja rfl rfl (hr16.len.trans (congrArg some (Qq _)))) fun _ K=>?_;refine Qb 1 K M fun _ K=>?_;refine Jy K rfl (fun h19=>?_) fun h19=>?_
  ·refine Qb 1 K M fun _ K=>?_;refine p1 K (Qf rfl (M.load (k:=1) rfl (Qd Q8 rfl))) fun _ K=>?_;refine Qb 1 K M fun _ K=>?_;obtain⟨_,hc25,w25,rfl,hr25,hz25⟩:=hN.at_ _ _ hi16;refine oI (Jj.mem M hN.r Q7) hc25 K QZ Jb rfl rfl rfl fun _ _ _ _ K=>?_;refine Qb 1 K M fun _ K=>?_;obtain⟨y28,hi28⟩:=Uw s16 c Qc;have hb28:=hin s16 (List.mem_of_getElem? hi16) y28 (List.mem_of_getElem? hi28);refine oI (Jj.mem M hr25 Q7) (Jm hi28) K Qo Qn rfl rfl rfl fun _ _ _ _ K=>?_;refine Qb 1 K M fun _ K=>?_;refine Uj K rfl (fun _ e31 K=>?_) fun _ e31 K=>?_
   ·refine Qb 1 K M fun _ K=>?_;refine pg K rfl rfl (Qf rfl (M.load (k:=1) rfl (Qd Q8 rfl))) fun _ K=>?_;refine Qb 1 K M fun _ K=>?_;obtain⟨_,hc35,w35,rfl,hr35,hz35⟩:=hN.at_ _ _ hi16;obtain⟨x35,m35,f35,q35,_,la35,lo35,lp35⟩:=(Jj.mem M hN.r Q7).load (i:=i) (cs:=_) hc35;refine pg K rfl rfl (Qe (j:=i) QZ (congrArg some q35) rfl (by rw[hN.ln];omega)) fun _ K=>pg K rfl rfl (Qf rfl (lo35 _ 0 _ Jb rfl)) fun _ K=>?_;refine Qb 1 K M fun _ K=>?_;obtain⟨x38,m38,f38,q38,_,la38,lo38,lp38⟩:=(Jj.mem M hr35 Q7).load (i:=c) (cs:=_) (Jm hi28);refine pg K rfl rfl (Qe (j:=c) Qo (congrArg some q38) rfl (by rw[Qq];omega)) fun _ K=>pg K rfl rfl (Qf rfl (lo38 _ 0 _ Qn rfl)) fun _ K=>?_;refine Qb 2 K M fun _ K=>?_;refine Jy K rfl (fun h41=>?_) fun h41=>?_
    ·exact XP
    refine Qb 3 K M fun _ K=>?_;exact⟨_,(by have:=hle s16 (List.mem_of_getElem? hi16);omega),c+1,rfl,(K.sub rfl),M.less (.refl _),(by have:=hle s16 (List.mem_of_getElem? hi16);omega)⟩
   exact XP
  refine QM ?_;show W _ _ _ _ _ _ _;refine Qb 3 K M fun _ K=>?_;exact⟨_,Qc,i+1,rfl,(K.sub rfl),M.less (.refl _),Qc⟩
 refine QM ?_;show W _ _ _ _ _ _ _;refine Qb 1 K M fun _ K=>?_;refine QW (k:=0) K M rfl rfl rfl QA rfl (Qa rfl (Qa hac (Qa hN.r.cell Q4))) rfl fun _ M=>?_;refine Qb 0 K M ?_;exact⟨rfl,M.qt⟩

theorem xT{R:Ee}(hf:Qi st)(hR:Y8 R st.h.get){o:List Nat}{an bn dn nn k:Nat}{l:List Cr}{cs:List AV}(hr:ZO R (.mk o ((an:Nat):Int) ((bn:Nat):Int) ((dn:Nat):Int) ((nn:Nat):Int) l) cs)(hat:VP o)(hn:nn≤20)(ha6:an≤6)(hb6:bn≤6)(hg6:dn≤6)(hk6:k≤6)(hsz:XZ (.mk o ((an:Nat):Int) ((bn:Nat):Int) ((dn:Nat):Int) ((nn:Nat):Int) l)≤2000)(hc:QX (.mk o ((an:Nat):Int) ((bn:Nat):Int) ((dn:Nat):Int) ((nn:Nat):Int) l) ((k:Nat):Int)=true): ∃v st',Jh 102 [.agg cs,iN k] st v st'∧ ∃x m,v=.tup [x,.bool true]∧JS (Zo o an bn dn nn k) m∧AK st st' m x∧Qt st st':=by
 have hr0:=hr;obtain⟨kc,ls,rfl,hK⟩:=hr.U5;have hln:=hK.ln;have hbn:=hK.Wv
 have hne:o≠[110,111,116]∧o≠[97,110,100]∧o≠[101,120]:=by rcases hat with rfl|rfl|rfl|rfl|rfl|rfl|rfl|rfl|rfl|rfl|rfl<;>simp
 have hkc:=hK.cell;have hp6:=J9 hk6;have hp0:0<2^k:=Nat.two_pow_pos _;have B:=Qk.start hf;refine JA Tryz.func102 Tryz.ntmps102 fun T K=>?_;have M:=B.mem;refine Qb 0 K M fun _ K=>?_;refine Ju K M rfl (Qa rfl (Qa rfl (Qa rfl (Qa rfl (Qa rfl (Qa hK.cell Q4)))))) Q9 fun c2 _ _ K M=>?_;refine au 4 K M ?_;intro c4 _ _ K _ M;refine oQ K M (vh M.fresh (M.Y8 hR) hr0 (m:=((k:Nat):Int)) Qc Qc hsz hc) rfl rfl fun _ _ K M=>?_;refine Qb 4 K M fun _ K=>?_;refine pg K rfl rfl (QU (b:=[110,111,116]) rfl rfl) fun _ K=>?_;refine Qb 1 K M fun _ K=>?_;refine Uj K rfl (fun _ e19 K=>?_) fun _ e19 K=>?_
 ·refine Qb 2 K M fun _ K=>?_;refine pg K rfl rfl (QU (b:=[97,110,100]) rfl rfl) fun _ K=>?_;refine Qb 1 K M fun _ K=>?_;refine Uj K rfl (fun _ e24 K=>?_) fun _ e24 K=>?_
  ·refine Qb 2 K M fun _ K=>?_;refine pg K rfl rfl (QU (b:=[101,120]) rfl rfl) fun _ K=>?_;refine Qb 1 K M fun _ K=>?_;refine Jy K rfl (fun h28=>?_) fun h28=>?_
   ·exfalso;exact hne.2.2 h28
   refine au 4 K M ?_;intro c6 _ _ K _ M;replace B:=(B.step M).V7;have M:=B.mem;refine Qb 1 K M fun _ K=>?_;refine QY (fun mm1 T st9=> ∃(s:Nat) (vs:List AV) (F:Fp) (ka4:AV) (Aa:QS) (kr4:AV) (Ar:QS),mm1=31-s∧QT [(1,iN k),(2,.ptr c2 0 0),(4,.ptr c4 0 0),(5,.bool false),(6,.ptr c6 0 0),(7,iN s)] T∧Qk st Xi st9 ((c6,0,[iN k,ka4,kr4])::(c4,0,[iZ 0,.nils,.nils])::(c2,0,[.str o,iN an,iN bn,iN dn,iN nn,kc])::(Aa++(Ar++[]))) [ES F vs (Ks o an bn dn nn k s)]∧s≤31∧Acc 0 1 Aa ka4 (bC (qW o nn s))∧YS Ar kr4 vs) (fun mm1 T st9 hI=>?_) _ _ _ ⟨0,[],_,.nils,[],.nils,[],rfl,(K.sub rfl),(B.step M).less (.refl _),Q9,.none,.none⟩;obtain⟨s,vs,F,ka4,Aa,kr4,Ar,rfl,K,B,hs31,hAa,hAr⟩:=hI;have M:=B.mem;refine Qb 2 K M fun _ K=>?_;refine Jy K rfl (fun h33=>?_) fun h33=>?_
   ·refine Qb 2 K M fun _ K=>?_;refine QY (fun mm2 T st9=> ∃(c:Nat) (kw:AV) (Aw:QS),mm2=2^k-c∧QT [(1,iN k),(2,.ptr c2 0 0),(4,.ptr c4 0 0),(5,.bool false),(6,.ptr c6 0 0),(7,iN s),(8,kw),(9,iN c),(33,.bool (decide (((s:Nat):Int)≤30)))] T∧Qk st Xi st9 ((c6,0,[iN k,ka4,kr4])::(c4,0,[iZ 0,.nils,.nils])::(c2,0,[.str o,iN an,iN bn,iN dn,iN nn,kc])::(Aa++(Ar++(Aw++[])))) [ES F vs (Ks o an bn dn nn k s)]∧c≤2^k∧Acc 0 1 Aw kw (zC (OD o an bn dn nn s c))) (fun mm2 T st9 hI=>?_) _ _ _ ⟨0,.nils,[],rfl,(K.sub rfl),(B.step M).less (.refl _),(Nat.zero_le _),.none⟩;obtain⟨c,kw,Aw,rfl,K,B,hcK,hAw⟩:=hI;have M:=B.mem;refine Qb 2 K M fun _ K=>?_;refine p1 K (U9 (c:=((k:Nat):Int)) UT U1 rfl (IntWalk.u64_in _ Qc)) fun _ K=>p1 K (UU (n:=k) rfl rfl Qc) fun _ K=>?_;refine Qb 1 K M fun _ K=>?_;refine Jy K rfl (fun h40=>?_) fun h40=>?_
    ·refine Qb 6 K M fun _ K=>?_;refine p1 K (U9 (c:=((an:Nat):Int)) UT U1 rfl (IntWalk.u64_in _ Qc)) fun _ K=>p1 K (ZV (a:=c) (n:=an) rfl rfl Qc) fun _ K=>p1 K (Zz (a:=c/2^an) rfl rfl (Nat.le_trans (Nat.div_le_self ..) Qc)) fun _ K=>?_;refine Qb 3 K M fun _ K=>?_;refine p1 K (U9 (c:=((bn:Nat):Int)) UT U1 rfl (IntWalk.u64_in _ Qc)) fun _ K=>p1 K (ZV (a:=c) (n:=bn) rfl rfl Qc) fun _ K=>p1 K (Zz (a:=c/2^bn) rfl rfl (Nat.le_trans (Nat.div_le_self ..) Qc)) fun _ K=>?_;refine Qb 3 K M fun _ K=>?_;refine p1 K (U9 (c:=((dn:Nat):Int)) UT U1 rfl (IntWalk.u64_in _ Qc)) fun _ K=>p1 K (ZV (a:=c) (n:=dn) rfl rfl Qc) fun _ K=>p1 K (Zz (a:=c/2^dn) rfl rfl (Nat.le_trans (Nat.div_le_self ..) Qc)) fun _ K=>?_;refine oQ K M (Mi M.fresh hkc hn (show s≤30 by omega) (Sp c an) (Sp c bn) (Sp c dn)) rfl rfl fun _ _ K M=>?_;refine au 1 K M ?_;intro c65 _ _ K _ M;refine Jf (k2:=0) (L:=((c65,0,[iZ (QR o nn s (c/2^an % 2) (c/2^bn % 2) (c/2^dn % 2):Nat)])::(c6,0,[iN k,ka4,kr4])::(c4,0,[iZ 0,.nils,.nils])::(c2,0,[.str o,iN an,iN bn,iN dn,iN nn,kc])::(Aa++(Ar++[])))) (A:=Aw) (B:=[]) K (Mem.cast M U0) hAw QJ rfl rfl rfl rfl (by rw[Qq,Dm];omega) rfl fun ks66 A66 _ _ K hA66 M=>?_;simp only[X3]at M;refine Qb 4 K M fun _ K=>?_;exact⟨_,Qc,c+1,ks66,A66,rfl,(K.sub rfl),(B.step M).less (.cons _ (.refl _)),Qc,(by rw[Mv Qc hn,JX];exact hA66)⟩
    refine QM ?_;show W _ _ _ _ _ _ _;refine Jz ?_;refine QC (l:=[(2,0),(3,0),(4,0),(0,0),(1,1),(5,0),(6,0),(7,0),(8,0)]) (by kernel_rfl) ?_;have Mq:=M;have Bq:=B;refine Jo 2 K M fun _ K=>?_;obtain⟨v71,st71,ev71,rfl,q71⟩:=C7 M.fresh hkc hn;refine qA rfl K (Qg rfl ev71) fun _ K=>?_;replace M:=M.quiet q71;have Mp:=Mq;have Mq:=M;have Bp:=Bq;have Bq:=B;refine Jo 1 K M fun _ K=>?_;refine Jt rfl K rfl (M.load (k:=0) rfl (Qd Um rfl)) (Mp.load (k:=0) rfl (Qd Um rfl)) (JQ (Uo hAa.len)) rfl Q9 fun _ K=>?_;refine XY rfl K M J4 Vd rfl rfl rfl rfl rfl fun c72 _ _ K M=>?_;refine X6 (k2:=0) (L:=[(c72,0,[.bool (Xe o nn s)]),(c6,0,[iN k,ka4,kr4]),(c4,0,[iZ 0,.nils,.nils]),(c2,0,[.str o,iN an,iN bn,iN dn,iN nn,kc])]) (A:=Aa) (B:=(Ar++(Aw++[]))) rfl K M hAa J4 rfl rfl rfl rfl (by rw[Uq,z6];omega) rfl fun ks73 A73 _ _ K hA73 M=>?_;have Mp:=Mq;have Mq:=M;have Bp:=Bq;have Bq:=B;refine Jo 1 K M fun _ K=>?_;refine YG (k:=1) rfl K M rfl rfl rfl UH (hA73.cell) rfl fun _ M=>?_;have Mp:=Mq;have Mq:=M;have Bp:=Bq;have Bq:=B;refine QF ?_;show W _ _ _ _ _ _ _;refine Qb 1 K M fun _ K=>?_;refine p1 K (Qf rfl (M.load (k:=1) rfl (Qd Q8 rfl))) fun _ K=>?_;refine Qb 1 K M fun _ K=>?_;refine X5 K M QQ Uu rfl ((JD rfl hAw.cell rfl).trans rfl) (Qa hAw.cell Q4) rfl rfl fun c78 _ _ K M=>?_;refine YL (k2:=0) (L:=((c78,0,[kw])::(c72,0,[.bool (Xe o nn s)])::(c6,0,[iN k,ks73,kr4])::(c4,0,[iZ 0,.nils,.nils])::(c2,0,[.str o,iN an,iN bn,iN dn,iN nn,kc])::(A73++[]))) (A:=Ar) (B:=(Aw++[])) K (Mem.cast M U0) hAr QQ rfl rfl rfl (by have:=Zl.ln ((B.step M).at_ (k:=0) rfl);rw[Gw]at this;omega) rfl fun ks79 A79 _ _ K hA79 _ M=>?_;simp only[X3]at M;refine Qb 1 K M fun _ K=>?_;refine Jl (k:=2) K M rfl rfl rfl Uy (hA79.cell) rfl fun _ M=>?_;refine Qb 3 K M fun _ K=>?_;replace B:=B.step M;obtain⟨Fr,B⟩:=Qk.ZD (L:=((c78,0,[kw])::(c72,0,[.bool (Xe o nn s)])::(c6,0,[iN k,ks73,ks79])::(c4,0,[iZ 0,.nils,.nils])::(c2,0,[.str o,iN an,iN bn,iN dn,iN nn,kc])::(A73++(A79++[])))) (A:=Aw) (B:=[]) (B.cast U0) hAw xw;replace B:=B.cast (M':=((c78,0,[kw])::(c72,0,[.bool (Xe o nn s)])::(c6,0,[iN k,ks73,ks79])::(c4,0,[iZ 0,.nils,.nils])::(c2,0,[.str o,iN an,iN bn,iN dn,iN nn,kc])::(A73++(A79++[])))) U0;have M:=B.mem
    have hc2:c=2^k:=by omega
    rw[hc2,←Rk]at B;exact⟨_,Qc,s+1,_,_,ks73,A73,ks79,A79,rfl,(K.sub rfl),(B.step M).less (.cons _ (.cons _ (.refl _))),Qc,(by rw[qV,XS];exact hA73),hA79⟩
   refine QM ?_;show W _ _ _ _ _ _ _;refine Qb 1 K M fun _ K=>?_;replace B:=B.step M;obtain⟨Fo,B⟩:=Qk.Bt (L:=((c6,0,[iN k,ka4,kr4])::(c4,0,[iZ 0,.nils,.nils])::(c2,0,[.str o,iN an,iN bn,iN dn,iN nn,kc])::(Aa++[]))) (A:=Ar) (B:=[]) (B.cast U0) hAr;replace B:=B.cast (M':=((c6,0,[iN k,ka4,kr4])::(c4,0,[iZ 0,.nils,.nils])::(c2,0,[.str o,iN an,iN bn,iN dn,iN nn,kc])::(Aa++[]))) U0;have M:=B.mem
   have hs31:s=31:=by omega
   subst hs31;obtain⟨v82,st82,ev82,rfl,q82⟩:=Cx M.fresh hAa.cell (Xw.r (B.at_ (k:=0) rfl)) jB (fun r hr=>by obtain⟨t,_,rfl⟩:=List.mem_map.1 hr;rw[Dm];exact hp6) (by rw[Gw];decide) k;refine p1 K (Qg rfl ev82) fun _ K=>?_;replace B:=(B.step M).quiet q82;have M:=B.mem;replace B:=B.step M;obtain⟨v83,st83,ev83,cl9,l9,m,hcls,htr9,hmd,nau,q83⟩:=uA (a:=Zo o an bn dn nn k) B.fresh (P4 hk6) (Mem.Y6 (L:=[(c6,0,[iN k,ka4,kr4]),(c4,0,[iZ 0,.nils,.nils]),(c2,0,[.str o,iN an,iN bn,iN dn,iN nn,kc])]) (A:=Aa) (B:=[]) M hAa) (Xw.r (B.at_ (k:=0) rfl));refine p1 K (Qg rfl ev83) fun _ K=>?_;obtain⟨kam,km,vm,Am,Fm,rfl,hAm,B⟩:=B.Kx q83 nau;have hlm:=GD (P4 hk6) hcls htr9 hmd;replace B:=B.cast (M':=((c6,0,[iN k,ka4,kr4])::(c4,0,[iZ 0,.nils,.nils])::(c2,0,[.str o,iN an,iN bn,iN dn,iN nn,kc])::(Aa++(Am++[])))) U0;have hkm:Qs km=true:=(Xw.rd (B.at_ (k:=0) rfl)).cell;have M:=B.mem;refine QW (k:=1) K M rfl rfl rfl QA rfl (Qa rfl (Qa hAm.cell (Qa hkm Q4))) rfl fun _ M=>?_;refine Qb 1 K M fun _ K=>?_;refine Jw ⟨.inr rfl,_,(Ud (JG K rfl (M.load (k:=1) rfl (QN Jk rfl))) (Q6 K rfl)),?_⟩;replace B:=B.step M;exact⟨_,m,rfl,hlm,Qk.Bs (a:=m) (M:=((c6,0,[iN k,ka4,kr4])::(c4,0,[iZ (m.tr:Nat),kam,km])::(c2,0,[.str o,iN an,iN bn,iN dn,iN nn,kc])::(Aa++[]))) (A:=Am) (B.cast U0) hAm,B.qt⟩
  refine au 8 K M ?_;intro _ _ K _ M;refine Jw ⟨.inr rfl,_,(Ud (JG K rfl (M.load (k:=0) rfl (QN Jk rfl))) (Q6 K rfl)),?_⟩
  exfalso;first|exact hne.1 (by assumption)|exact hne.2.1 (by assumption)|exact hne.2.2 (by assumption)|(simp_all;done)
 refine au 13 K M ?_;intro _ _ K _ M;refine Jw ⟨.inr rfl,_,(Ud (JG K rfl (M.load (k:=0) rfl (QN Jk rfl))) (Q6 K rfl)),?_⟩
 exfalso;first|exact hne.1 (by assumption)|exact hne.2.1 (by assumption)|exact hne.2.2 (by assumption)|(simp_all;done)
end Go.Proofs.YtiknomepbklibaaGreatDoor
