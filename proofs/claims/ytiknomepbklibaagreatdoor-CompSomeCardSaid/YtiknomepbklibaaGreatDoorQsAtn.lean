/-
  Atoms: the reference's automata of atoms.
-/
import Derived.Test.YtiknomepbklibaaGreatDoorQsAtm
set_option maxHeartbeats 8000000
set_option maxRecDepth 100000
set_option linter.unnecessarySimpa false
set_option linter.unusedSectionVars false
set_option linter.unusedSimpArgs false
set_option linter.unusedVariables false
namespace Go.Proofs.YtiknomepbklibaaGreatDoor
open Go Go.RowKit
section
variable {st:St}

theorem GL{a m:Au}{cl l:List Int}(W:Zp a)(h:ZO a cl)(ht:m.tr=a.tr)(H:UA (Kf a cl) (cv cl 0) (P0 a cl) l m):JR a m:=
 have h1:=GD W h ht H
 ⟨h1.1,h1.2,ht⟩
theorem vi{R:VN}(hf:Qi st)(hR:Yy R st.h.get){o:List Nat}{a b g n:Int}{l:List Cr}{cs:List AV}(hr:YI R (.mk o a b g n l) cs){m:Int}(h0:0≤m)(h6:m≤6)(hsz:Vg (.mk o a b g n l)≤2000)(hc:QV (.mk o a b g n l) m=true): ∃v st',Jf 33 [.agg cs,.int .i64 m] st v st'∧v=.bool true∧Qt st st':=by
 obtain⟨v,st',h1,h2,h3⟩:=SX hf hR hr m;refine⟨v,st',h1,?_,h3⟩;rw[h2,decide_eq_true h0,decide_eq_true h6,decide_eq_true hsz,hc];rfl
section
variable {o:List Nat} {a b d n k s c:Nat}
def OJ(o:List Nat)(a b d n s c:Nat):List Int:=(List.range c).map fun l=>((VU o n a b d s l:Nat):Int)
def Kz(o:List Nat)(a b d n k s:Nat):List (List Int):=(List.range s).map fun t=>OJ o a b d n t (2^k)
def qN(o:List Nat)(n s:Nat):List Bool:=(List.range s).map (Xh o n)
theorem jh(hs:s≤30)(hn:n≤20)(l:Nat):VU o n a b d s l=QR o n s (l/2^a % 2) (l/2^b % 2) (l/2^d % 2):=Nat.min_eq_left (ji hs hn)
theorem Dr:(OJ o a b d n s c).length=c:=by simp[OJ]
theorem Mk(hs:s≤30)(hn:n≤20):OJ o a b d n s (c+1)=OJ o a b d n s c++[((QR o n s (c/2^a % 2) (c/2^b % 2) (c/2^d % 2):Nat):Int)]:=by
 unfold OJ;rw[List.range_succ,List.map_append,List.map_singleton,jh hs hn]
theorem SS: ∀z∈OJ o a b d n s c,0≤z∧z≤30:=fun z hz=>by
 obtain⟨l,_,rfl⟩:=List.mem_map.1 hz;have:=HE (o:=o) (n:=n) (a:=a) (b:=b) (d:=d) s l;omega
theorem xw:X5 (OJ o a b d n s c):=fun z hz=>by
 have:=SS z hz
 constructor<;>omega
theorem Rr:Kz o a b d n k (s+1)=Kz o a b d n k s++[OJ o a b d n s (2^k)]:=by
 unfold Kz;rw[List.range_succ,List.map_append,List.map_singleton]
theorem G1:(Kz o a b d n k s).length=s:=by simp[Kz]
theorem qM:qN o n (s+1)=qN o n s++[Xh o n s]:=by
 unfold qN;rw[List.range_succ,List.map_append,List.map_singleton]
theorem zy:(qN o n s).length=s:=by simp[qN]
theorem js: ∀r∈Kz o a b d n k s,∀z∈r,0≤z∧z≤30:=fun r hr z hz=>by
 obtain⟨t,_,rfl⟩:=List.mem_map.1 hr;exact SS z hz
theorem Su(l v:Nat):l/2^v % 2≤1:=Nat.le_of_lt_succ (Nat.mod_lt _ Q8)
end

theorem C4(hf:Qi st){LL:List (List Int)}{ka kn:AV}{ls:List (List AV)}(hac:Qr ka=true)(hN:OC st.h.get LL kn ls)(hin: ∀r∈LL,∀z∈r,0≤z∧z≤30)(hle: ∀r∈LL,r.length≤64)(hll:LL.length≤1000)(k:Nat): ∃v st',Jf 132 [.agg [iN k,ka,kn]] st v st'∧v=.agg [iN k,ka,kn]∧Qt st st':=by
 have hnc:=hN.r.cell;refine J7 Tryz.func132 Tryz.ntmps132 fun T K=>?_;have M:=Mem.start hf;refine Qb 0 K M fun _ K=>?_;refine Jv K M rfl (Qa rfl (Qa hac (Qa hN.r.cell Qz))) Q8 fun c1 _ _ K M=>?_;refine au 2 K M ?_;intro c2 _ _ K _ M;refine QX (fun mm1 T st9=> ∃(i:Nat),mm1=LL.length-i∧QS [(1,.ptr c1 0 0),(2,.ptr c2 0 0),(3,iN i)] T∧Mem st.h.get st.n [] st9 [(c2,0,[iZ 0,.nils,.nils]),(c1,0,[iN k,ka,kn])]∧i≤LL.length) (fun mm1 T st9 hI=>?_) _ _ _ ⟨0,rfl,(K.sub rfl),M.less (.refl _),(Nat.zero_le _)⟩;obtain⟨i,rfl,K,M,hil⟩:=hI;refine Qb 2 K M fun _ K=>?_;refine p1 K (Qg rfl (M.load (k:=1) rfl (Qd Q7 rfl))) fun _ K=>p1 K (Q5 JS rfl rfl hN.len) fun _ K=>?_;refine Qb 1 K M fun _ K=>?_;refine Jt K rfl (fun h9=>?_) fun h9=>?_
 ·refine Qb 1 K M fun _ K=>?_;refine QX (fun mm2 T st9=> ∃(c:Nat),mm2=64-c∧QS [(1,.ptr c1 0 0),(2,.ptr c2 0 0),(3,iN i),(4,iN c),(9,.bool (decide (((i:Nat):Int)<((LL.length:Nat):Int))))] T∧Mem st.h.get st.n [] st9 [(c2,0,[iZ 0,.nils,.nils]),(c1,0,[iN k,ka,kn])]∧c≤64) (fun mm2 T st9 hI=>?_) _ _ _ ⟨0,rfl,(K.sub rfl),M.less (.refl _),Qc⟩;obtain⟨c,rfl,K,M,hc9⟩:=hI;refine Qb 2 K M fun _ K=>?_;refine p1 K (Qg rfl (M.load (k:=1) rfl (Qd Q7 rfl))) fun _ K=>?_;refine Qb 1 K M fun _ K=>?_;obtain⟨s16,hi16⟩:=Uy LL i Qc;obtain⟨_,hc16,w16,rfl,hr16,hz16⟩:=hN.at_ _ _ hi16;refine oI (Jg.mem M hN.r Q4) hc16 K QY Ja rfl rfl rfl fun _ _ _ _ K=>?_;refine p1 K (Q5 Je rfl rfl (hr16.len.trans (congrArg some (Qp _)))) fun _ K=>?_;refine Qb 1 K M fun _ K=>?_;refine Jt K rfl (fun h19=>?_) fun h19=>?_
  ·refine Qb 1 K M fun _ K=>?_;refine p1 K (Qg rfl (M.load (k:=1) rfl (Qd Q7 rfl))) fun _ K=>?_;refine Qb 1 K M fun _ K=>?_;obtain⟨_,hc25,w25,rfl,hr25,hz25⟩:=hN.at_ _ _ hi16;refine oI (Jg.mem M hN.r Q4) hc25 K QY Ja rfl rfl rfl fun _ _ _ _ K=>?_;refine Qb 1 K M fun _ K=>?_;obtain⟨y28,hi28⟩:=Uy s16 c Qc;have hb28:=hin s16 (List.mem_of_getElem? hi16) y28 (List.mem_of_getElem? hi28);refine oI (Jg.mem M hr25 Q4) (Jm hi28) K Qo Qn rfl rfl rfl fun _ _ _ _ K=>?_;refine Qb 1 K M fun _ K=>?_;refine Ug K rfl (fun _ e31 K=>?_) fun _ e31 K=>?_
   ·refine Qb 1 K M fun _ K=>?_;refine pg K rfl rfl (Qg rfl (M.load (k:=1) rfl (Qd Q7 rfl))) fun _ K=>?_;refine Qb 1 K M fun _ K=>?_;obtain⟨_,hc35,w35,rfl,hr35,hz35⟩:=hN.at_ _ _ hi16;obtain⟨x35,m35,f35,q35,_,la35,lo35,lp35⟩:=(Jg.mem M hN.r Q4).load (i:=i) (cs:=_) hc35;refine pg K rfl rfl (Qe (j:=i) QY (congrArg some q35) rfl (by rw[hN.ln];omega)) fun _ K=>pg K rfl rfl (Qg rfl (lo35 _ 0 _ Ja rfl)) fun _ K=>?_;refine Qb 1 K M fun _ K=>?_;obtain⟨x38,m38,f38,q38,_,la38,lo38,lp38⟩:=(Jg.mem M hr35 Q4).load (i:=c) (cs:=_) (Jm hi28);refine pg K rfl rfl (Qe (j:=c) Qo (congrArg some q38) rfl (by rw[Qp];omega)) fun _ K=>pg K rfl rfl (Qg rfl (lo38 _ 0 _ Qn rfl)) fun _ K=>?_;refine Qb 2 K M fun _ K=>?_;refine Jt K rfl (fun h41=>?_) fun h41=>?_
    ·exact XW
    refine Qb 3 K M fun _ K=>?_;exact⟨_,(by have:=hle s16 (List.mem_of_getElem? hi16);omega),c+1,rfl,(K.sub rfl),M.less (.refl _),(by have:=hle s16 (List.mem_of_getElem? hi16);omega)⟩
   exact XW
  refine QK ?_;show W _ _ _ _ _ _ _;refine Qb 3 K M fun _ K=>?_;exact⟨_,Qc,i+1,rfl,(K.sub rfl),M.less (.refl _),Qc⟩
 refine QK ?_;show W _ _ _ _ _ _ _;refine Qb 1 K M fun _ K=>?_;refine QU (k:=0) K M rfl rfl rfl Q9 rfl (Qa rfl (Qa hac (Qa hN.r.cell Qz))) rfl fun _ M=>?_;refine Qb 0 K M ?_;exact⟨rfl,M.qt⟩

theorem xU{R:VN}(hf:Qi st)(hR:Yy R st.h.get){o:List Nat}{an bn dn nn k:Nat}{l:List Cr}{cs:List AV}(hr:YI R (.mk o ((an:Nat):Int) ((bn:Nat):Int) ((dn:Nat):Int) ((nn:Nat):Int) l) cs)(hat:VQ o)(hn:nn≤20)(ha6:an≤6)(hb6:bn≤6)(hg6:dn≤6)(hk6:k≤6)(hsz:Vg (.mk o ((an:Nat):Int) ((bn:Nat):Int) ((dn:Nat):Int) ((nn:Nat):Int) l)≤2000)(hc:QV (.mk o ((an:Nat):Int) ((bn:Nat):Int) ((dn:Nat):Int) ((nn:Nat):Int) l) ((k:Nat):Int)=true): ∃v st',Jf 102 [.agg cs,iN k] st v st'∧ ∃x m,v=.tup [x,.bool true]∧JR (Zo o an bn dn nn k) m∧AP st st' m x∧Qt st st':=by
 have hr0:=hr;obtain⟨kc,ls,rfl,hK⟩:=hr.U0;have hln:=hK.ln;have hbn:=hK.W3
 have hne:o≠[110,111,116]∧o≠[97,110,100]∧o≠[101,120]:=by rcases hat with rfl|rfl|rfl|rfl|rfl|rfl|rfl|rfl|rfl|rfl|rfl<;>simp
 have hkc:=hK.cell;have hp6:=JG hk6;have hp0:0<2^k:=Nat.two_pow_pos _;have B:=Qk.start hf;refine J7 Tryz.func102 Tryz.ntmps102 fun T K=>?_;have M:=B.mem;refine Qb 0 K M fun _ K=>?_;refine Jv K M rfl (Qa rfl (Qa rfl (Qa rfl (Qa rfl (Qa rfl (Qa hK.cell Qz)))))) Q8 fun c2 _ _ K M=>?_;refine au 4 K M ?_;intro c4 _ _ K _ M;refine oQ K M (vi M.fresh (M.Yy hR) hr0 (m:=((k:Nat):Int)) Qc Qc hsz hc) rfl rfl fun _ _ K M=>?_;refine Qb 4 K M fun _ K=>?_;refine pg K rfl rfl (QG (b:=[110,111,116]) rfl rfl) fun _ K=>?_;refine Qb 1 K M fun _ K=>?_;refine Ug K rfl (fun _ e19 K=>?_) fun _ e19 K=>?_
 ·refine Qb 2 K M fun _ K=>?_;refine pg K rfl rfl (QG (b:=[97,110,100]) rfl rfl) fun _ K=>?_;refine Qb 1 K M fun _ K=>?_;refine Ug K rfl (fun _ e24 K=>?_) fun _ e24 K=>?_
  ·refine Qb 2 K M fun _ K=>?_;refine pg K rfl rfl (QG (b:=[101,120]) rfl rfl) fun _ K=>?_;refine Qb 1 K M fun _ K=>?_;refine Jt K rfl (fun h28=>?_) fun h28=>?_
   ·exfalso;exact hne.2.2 h28
   refine au 4 K M ?_;intro c6 _ _ K _ M;replace B:=(B.step M).V9;have M:=B.mem;refine Qb 1 K M fun _ K=>?_;refine QX (fun mm1 T st9=> ∃(s:Nat) (vs:List AV) (F:Fp) (ka4:AV) (Aa:QM) (kr4:AV) (Ar:QM),mm1=31-s∧QS [(1,iN k),(2,.ptr c2 0 0),(4,.ptr c4 0 0),(5,.bool false),(6,.ptr c6 0 0),(7,iN s)] T∧Qk st ZQ st9 ((c6,0,[iN k,ka4,kr4])::(c4,0,[iZ 0,.nils,.nils])::(c2,0,[.str o,iN an,iN bn,iN dn,iN nn,kc])::(Aa++(Ar++[]))) [EX F vs (Kz o an bn dn nn k s)]∧s≤31∧Acc 0 1 Aa ka4 (bC (qN o nn s))∧YS Ar kr4 vs) (fun mm1 T st9 hI=>?_) _ _ _ ⟨0,[],_,.nils,[],.nils,[],rfl,(K.sub rfl),(B.step M).less (.refl _),Q8,.none,.none⟩;obtain⟨s,vs,F,ka4,Aa,kr4,Ar,rfl,K,B,hs31,hAa,hAr⟩:=hI;have M:=B.mem;refine Qb 2 K M fun _ K=>?_;refine Jt K rfl (fun h33=>?_) fun h33=>?_
   ·refine Qb 2 K M fun _ K=>?_;refine QX (fun mm2 T st9=> ∃(c:Nat) (kw:AV) (Aw:QM),mm2=2^k-c∧QS [(1,iN k),(2,.ptr c2 0 0),(4,.ptr c4 0 0),(5,.bool false),(6,.ptr c6 0 0),(7,iN s),(8,kw),(9,iN c),(33,.bool (decide (((s:Nat):Int)≤30)))] T∧Qk st ZQ st9 ((c6,0,[iN k,ka4,kr4])::(c4,0,[iZ 0,.nils,.nils])::(c2,0,[.str o,iN an,iN bn,iN dn,iN nn,kc])::(Aa++(Ar++(Aw++[])))) [EX F vs (Kz o an bn dn nn k s)]∧c≤2^k∧Acc 0 1 Aw kw (zC (OJ o an bn dn nn s c))) (fun mm2 T st9 hI=>?_) _ _ _ ⟨0,.nils,[],rfl,(K.sub rfl),(B.step M).less (.refl _),(Nat.zero_le _),.none⟩;obtain⟨c,kw,Aw,rfl,K,B,hcK,hAw⟩:=hI;have M:=B.mem;refine Qb 2 K M fun _ K=>?_;refine p1 K (U8 (c:=((k:Nat):Int)) UR Uz rfl (IntWalk.u64_in _ Qc)) fun _ K=>p1 K (US (n:=k) rfl rfl Qc) fun _ K=>?_;refine Qb 1 K M fun _ K=>?_;refine Jt K rfl (fun h40=>?_) fun h40=>?_
    ·refine Qb 6 K M fun _ K=>?_;refine p1 K (U8 (c:=((an:Nat):Int)) UR Uz rfl (IntWalk.u64_in _ Qc)) fun _ K=>p1 K (ZX (a:=c) (n:=an) rfl rfl Qc) fun _ K=>p1 K (Z0 (a:=c/2^an) rfl rfl (Nat.le_trans (Nat.div_le_self ..) Qc)) fun _ K=>?_;refine Qb 3 K M fun _ K=>?_;refine p1 K (U8 (c:=((bn:Nat):Int)) UR Uz rfl (IntWalk.u64_in _ Qc)) fun _ K=>p1 K (ZX (a:=c) (n:=bn) rfl rfl Qc) fun _ K=>p1 K (Z0 (a:=c/2^bn) rfl rfl (Nat.le_trans (Nat.div_le_self ..) Qc)) fun _ K=>?_;refine Qb 3 K M fun _ K=>?_;refine p1 K (U8 (c:=((dn:Nat):Int)) UR Uz rfl (IntWalk.u64_in _ Qc)) fun _ K=>p1 K (ZX (a:=c) (n:=dn) rfl rfl Qc) fun _ K=>p1 K (Z0 (a:=c/2^dn) rfl rfl (Nat.le_trans (Nat.div_le_self ..) Qc)) fun _ K=>?_;refine oQ K M (Mb M.fresh hkc hn (show s≤30 by omega) (Su c an) (Su c bn) (Su c dn)) rfl rfl fun _ _ K M=>?_;refine au 1 K M ?_;intro c65 _ _ K _ M;refine QZ (k2:=0) (L:=((c65,0,[iZ (QR o nn s (c/2^an % 2) (c/2^bn % 2) (c/2^dn % 2):Nat)])::(c6,0,[iN k,ka4,kr4])::(c4,0,[iZ 0,.nils,.nils])::(c2,0,[.str o,iN an,iN bn,iN dn,iN nn,kc])::(Aa++(Ar++[])))) (B:=[]) K (Mem.cast M Ux) hAw QD rfl rfl rfl rfl (by rw[Qp,Dr];omega) rfl fun ks66 A66 _ _ K hA66 M=>?_;simp only[XB]at M;refine Qb 4 K M fun _ K=>?_;exact⟨_,Qc,c+1,ks66,A66,rfl,(K.sub rfl),(B.step M).less (.cons _ (.refl _)),Qc,(by rw[Mk Qc hn,JW];exact hA66)⟩
    refine QK ?_;show W _ _ _ _ _ _ _;refine Jy ?_;refine QA (l:=[(2,0),(3,0),(4,0),(0,0),(1,1),(5,0),(6,0),(7,0),(8,0)]) (by kernel_rfl) ?_;have Mq:=M;have Bq:=B;refine Jo 2 K M fun _ K=>?_;obtain⟨v71,st71,ev71,rfl,q71⟩:=CA M.fresh hkc hn;refine qA rfl K (Qf rfl ev71) fun _ K=>?_;replace M:=M.quiet q71;have Mp:=Mq;have Mq:=M;have Bp:=Bq;have Bq:=B;refine Jo 1 K M fun _ K=>?_;refine Ju rfl K rfl (M.load (k:=0) rfl (Qd Um rfl)) (Mp.load (k:=0) rfl (Qd Um rfl)) (JI (Ub hAa.len)) rfl Q8 fun _ K=>?_;refine Xp rfl K M J3 Vk rfl rfl rfl rfl rfl fun c72 _ _ K M=>?_;refine ZT (k2:=0) (L:=[(c72,0,[.bool (Xh o nn s)]),(c6,0,[iN k,ka4,kr4]),(c4,0,[iZ 0,.nils,.nils]),(c2,0,[.str o,iN an,iN bn,iN dn,iN nn,kc])]) (B:=(Ar++(Aw++[]))) rfl K M hAa J3 rfl rfl rfl rfl (by rw[Up,zy];omega) rfl fun ks73 A73 _ _ K hA73 M=>?_;have Mp:=Mq;have Mq:=M;have Bp:=Bq;have Bq:=B;refine Jo 1 K M fun _ K=>?_;refine Ze (k:=1) rfl K M rfl rfl rfl UG (hA73.cell) rfl fun _ M=>?_;have Mp:=Mq;have Mq:=M;have Bp:=Bq;have Bq:=B;refine QF ?_;show W _ _ _ _ _ _ _;refine Qb 1 K M fun _ K=>?_;refine p1 K (Qg rfl (M.load (k:=1) rfl (Qd Q7 rfl))) fun _ K=>?_;refine Qb 1 K M fun _ K=>?_;refine Xo K M QQ Ut rfl ((JB rfl hAw.cell rfl).trans rfl) (Qa hAw.cell Qz) rfl rfl fun c78 _ _ K M=>?_;refine YL (k2:=0) (L:=((c78,0,[kw])::(c72,0,[.bool (Xh o nn s)])::(c6,0,[iN k,ks73,kr4])::(c4,0,[iZ 0,.nils,.nils])::(c2,0,[.str o,iN an,iN bn,iN dn,iN nn,kc])::(A73++[]))) (B:=(Aw++[])) K (Mem.cast M Ux) hAr QQ rfl rfl rfl (by have:=Zl.ln ((B.step M).at_ (k:=0) rfl);rw[G1]at this;omega) rfl fun ks79 A79 _ _ K hA79 _ M=>?_;simp only[XB]at M;refine Qb 1 K M fun _ K=>?_;refine Jk (k:=2) K M rfl rfl rfl Uv (hA79.cell) rfl fun _ M=>?_;refine Qb 3 K M fun _ K=>?_;replace B:=B.step M;obtain⟨Fr,B⟩:=Qk.ZD (L:=((c78,0,[kw])::(c72,0,[.bool (Xh o nn s)])::(c6,0,[iN k,ks73,ks79])::(c4,0,[iZ 0,.nils,.nils])::(c2,0,[.str o,iN an,iN bn,iN dn,iN nn,kc])::(A73++(A79++[])))) (B:=[]) (B.cast Ux) hAw xw;replace B:=B.cast (M':=((c78,0,[kw])::(c72,0,[.bool (Xh o nn s)])::(c6,0,[iN k,ks73,ks79])::(c4,0,[iZ 0,.nils,.nils])::(c2,0,[.str o,iN an,iN bn,iN dn,iN nn,kc])::(A73++(A79++[])))) Ux;have M:=B.mem
    have hc2:c=2^k:=by omega
    rw[hc2,←Rr]at B;exact⟨_,Qc,s+1,_,_,ks73,A73,ks79,A79,rfl,(K.sub rfl),(B.step M).less (.cons _ (.cons _ (.refl _))),Qc,(by rw[qM,XZ];exact hA73),hA79⟩
   refine QK ?_;show W _ _ _ _ _ _ _;refine Qb 1 K M fun _ K=>?_;replace B:=B.step M;obtain⟨Fo,B⟩:=Qk.B6 (L:=((c6,0,[iN k,ka4,kr4])::(c4,0,[iZ 0,.nils,.nils])::(c2,0,[.str o,iN an,iN bn,iN dn,iN nn,kc])::(Aa++[]))) (B:=[]) (B.cast Ux) hAr;replace B:=B.cast (M':=((c6,0,[iN k,ka4,kr4])::(c4,0,[iZ 0,.nils,.nils])::(c2,0,[.str o,iN an,iN bn,iN dn,iN nn,kc])::(Aa++[]))) Ux;have M:=B.mem
   have hs31:s=31:=by omega
   subst hs31;obtain⟨v82,st82,ev82,rfl,q82⟩:=C4 M.fresh hAa.cell (X3.r (B.at_ (k:=0) rfl)) js (fun r hr=>by obtain⟨t,_,rfl⟩:=List.mem_map.1 hr;rw[Dr];exact hp6) (by rw[G1];decide) k;refine p1 K (Qf rfl ev82) fun _ K=>?_;replace B:=(B.step M).quiet q82;have M:=B.mem;replace B:=B.step M;obtain⟨v83,st83,ev83,cl9,l9,m,hcls,htr9,hmd,nau,q83⟩:=uw (a:=Zo o an bn dn nn k) B.fresh (PC hk6) (Mem.Ys (L:=[(c6,0,[iN k,ka4,kr4]),(c4,0,[iZ 0,.nils,.nils]),(c2,0,[.str o,iN an,iN bn,iN dn,iN nn,kc])]) (B:=[]) M hAa) (X3.r (B.at_ (k:=0) rfl));refine p1 K (Qf rfl ev83) fun _ K=>?_;obtain⟨kam,km,vm,Am,Fm,rfl,hAm,B⟩:=B.KE q83 nau;have hlm:=GL (PC hk6) hcls htr9 hmd;replace B:=B.cast (M':=((c6,0,[iN k,ka4,kr4])::(c4,0,[iZ 0,.nils,.nils])::(c2,0,[.str o,iN an,iN bn,iN dn,iN nn,kc])::(Aa++(Am++[])))) Ux;have hkm:Qr km=true:=(X3.rd (B.at_ (k:=0) rfl)).cell;have M:=B.mem;refine QU (k:=1) K M rfl rfl rfl Q9 rfl (Qa rfl (Qa hAm.cell (Qa hkm Qz))) rfl fun _ M=>?_;refine Qb 1 K M fun _ K=>?_;refine Jx ⟨.inr rfl,_,(Ud (JE K rfl (M.load (k:=1) rfl (QN Jj rfl))) (Q6 K rfl)),?_⟩;replace B:=B.step M;exact⟨_,m,rfl,hlm,Qk.B5 (a:=m) (M:=((c6,0,[iN k,ka4,kr4])::(c4,0,[iZ (m.tr:Nat),kam,km])::(c2,0,[.str o,iN an,iN bn,iN dn,iN nn,kc])::(Aa++[]))) (A:=Am) (B.cast Ux) hAm,B.qt⟩
  refine au 8 K M ?_;intro _ _ K _ M;refine Jx ⟨.inr rfl,_,(Ud (JE K rfl (M.load (k:=0) rfl (QN Jj rfl))) (Q6 K rfl)),?_⟩
  exfalso;first|exact hne.1 (by assumption)|exact hne.2.1 (by assumption)|exact hne.2.2 (by assumption)|(simp_all;done)
 refine au 13 K M ?_;intro _ _ K _ M;refine Jx ⟨.inr rfl,_,(Ud (JE K rfl (M.load (k:=0) rfl (QN Jj rfl))) (Q6 K rfl)),?_⟩
 exfalso;first|exact hne.1 (by assumption)|exact hne.2.1 (by assumption)|exact hne.2.2 (by assumption)|(simp_all;done)
end
section
variable {c1 n:Nat} {st:St}

theorem Si(hf:Qi st)(n:Nat)(hn:n≤20): ∃v st',Jf 169 [iN n] st v st'∧ ∃c1 c3,v=.agg [.fn 175 [] [.ptr c1 0 0,.ptr c3 0 0],iZ (n+1:Nat),iZ (n+2:Nat)]∧Qx st'.h.get c1 0 [iN n]∧Qx st'.h.get c3 0 [iZ (n+1:Nat)]∧st.n≤c1∧st.n≤c3∧c1≠c3∧Qt st st':=by
 refine J7 Tryz.func169 Tryz.ntmps169 fun T K=>?_;have M:=Mem.start hf;refine au 6 K M ?_;intro c1 c2 c3 _ _ K _ M;refine p1 K (X9 rfl rfl) fun _ K=>?_;refine au 5 K M ?_;intro _ _ K _ M;refine Qb 0 K M ?_;have hnd:=M.nodup;simp at hnd;exact⟨c1,c3,rfl,M.Ya (k:=2) rfl,M.Ya (k:=0) rfl,M.jS (k:=2) rfl,M.jS (k:=0) rfl,by omega,M.qt⟩

theorem MB(hf:Qi st)(n:Nat)(hn:n≤20): ∃v st',Jf 170 [iN n] st v st'∧ ∃c1 c3,v=.agg [.fn 176 [] [.ptr c3 0 0,.ptr c1 0 0],iZ (n+1:Nat),iZ (n+2:Nat)]∧Qx st'.h.get c1 0 [iN n]∧Qx st'.h.get c3 0 [iZ (n+1:Nat)]∧st.n≤c1∧st.n≤c3∧c1≠c3∧Qt st st':=by
 refine J7 Tryz.func170 Tryz.ntmps170 fun T K=>?_;have M:=Mem.start hf;refine au 6 K M ?_;intro c1 c2 c3 _ _ K _ M;refine p1 K (X9 rfl rfl) fun _ K=>?_;refine au 5 K M ?_;intro _ _ K _ M;refine Qb 0 K M ?_;have hnd:=M.nodup;simp at hnd;exact⟨c1,c3,rfl,M.Ya (k:=2) rfl,M.Ya (k:=0) rfl,M.jS (k:=2) rfl,M.jS (k:=0) rfl,by omega,M.qt⟩

theorem Rq(hf:Qi st)(hr:Qx st.h.get c1 0 [.fn 160 [] []]):Hy st 174 [.ptr c1 0 0] [116,114,117,101] n:=fun st1 q s x y z hs=>by
 obtain⟨v,st2,h1,h2,h3⟩:=WC q.fresh (hr.later hf q) eI ((s:Nat):Int) x y z;refine⟨v,st2,h1,?_,h3⟩
 have e:Jp [116,114,117,101] n s x y z=(if(true)=true then 0 else-1):=by
  unfold Jp;rw[if_pos rfl];rfl
 rw[h2,e]

theorem Rp(hf:Qi st)(hr:Qx st.h.get c1 0 [.fn 161 [] []]):Hy st 174 [.ptr c1 0 0] [115,117,98] n:=fun st1 q s x y z hs=>by
 obtain⟨v,st2,h1,h2,h3⟩:=WC q.fresh (hr.later hf q) eG ((s:Nat):Int) x y z;refine⟨v,st2,h1,?_,h3⟩
 have e:Jp [115,117,98] n s x y z=(if((!x||y))=true then 0 else-1):=by
  unfold Jp;rw[if_neg Q8,if_pos rfl]
 rw[h2,e]

theorem Ro(hf:Qi st)(hr:Qx st.h.get c1 0 [.fn 162 [] []]):Hy st 174 [.ptr c1 0 0] [110,111,110,101] n:=fun st1 q s x y z hs=>by
 obtain⟨v,st2,h1,h2,h3⟩:=WC q.fresh (hr.later hf q) eE ((s:Nat):Int) x y z;refine⟨v,st2,h1,?_,h3⟩
 have e:Jp [110,111,110,101] n s x y z=(if((!x))=true then 0 else-1):=by
  unfold Jp;rw[if_neg Q8,if_neg Q8,if_pos rfl]
 rw[h2,e]

theorem Rn(hf:Qi st)(hr:Qx st.h.get c1 0 [.fn 163 [] []]):Hy st 174 [.ptr c1 0 0] [117,110,105,111,110] n:=fun st1 q s x y z hs=>by
 obtain⟨v,st2,h1,h2,h3⟩:=WC q.fresh (hr.later hf q) eC ((s:Nat):Int) x y z;refine⟨v,st2,h1,?_,h3⟩
 have e:Jp [117,110,105,111,110] n s x y z=(if((z==(x||y)))=true then 0 else-1):=by
  unfold Jp;rw[if_neg Q8,if_neg Q8,if_neg Q8,if_pos rfl]
 rw[h2,e]

theorem Rm(hf:Qi st)(hr:Qx st.h.get c1 0 [.fn 164 [] []]):Hy st 174 [.ptr c1 0 0] [105,110,116,101,114] n:=fun st1 q s x y z hs=>by
 obtain⟨v,st2,h1,h2,h3⟩:=WC q.fresh (hr.later hf q) eA ((s:Nat):Int) x y z;refine⟨v,st2,h1,?_,h3⟩
 have e:Jp [105,110,116,101,114] n s x y z=(if((z==(x&&y)))=true then 0 else-1):=by
  unfold Jp;rw[if_neg Q8,if_neg Q8,if_neg Q8,if_neg Q8,if_pos rfl]
 rw[h2,e]

theorem Rl(hf:Qi st)(hr:Qx st.h.get c1 0 [.fn 165 [] []]):Hy st 174 [.ptr c1 0 0] [109,105,110,117,115] n:=fun st1 q s x y z hs=>by
 obtain⟨v,st2,h1,h2,h3⟩:=WC q.fresh (hr.later hf q) ew ((s:Nat):Int) x y z;refine⟨v,st2,h1,?_,h3⟩
 have e:Jp [109,105,110,117,115] n s x y z=(if((z==(x&& !y)))=true then 0 else-1):=by
  unfold Jp;rw[if_neg Q8,if_neg Q8,if_neg Q8,if_neg Q8,if_neg Q8,if_pos rfl]
 rw[h2,e]

theorem qD{R:VN}(hf:Qi st)(hR:Yy R st.h.get){o:List Nat}{an bn gn nn:Nat}{l:List Cr}{cs:List AV}(hr:YI R (.mk o ((an:Nat):Int) ((bn:Nat):Int) ((gn:Nat):Int) ((nn:Nat):Int) l) cs)(hat:VQ o)(hn:nn≤20): ∃v st',Jf 138 [.agg cs] st v st'∧ ∃f fc,v=.tup [.agg [.fn f [] fc,iZ (Jc o nn:Nat),iZ (Qu o nn:Nat)],.bool true]∧Hy st' f fc o nn∧Gi (.fn f [] fc) (.fn f [] fc)=true∧Qt st st':=by
 have hr0:=hr;obtain⟨kc,ls,rfl,hK⟩:=hr.U0;have hln:=hK.ln;have hbn:=hK.W3;refine J7 Tryz.func138 Tryz.ntmps138 fun T K=>?_;have M:=Mem.start hf;refine Qb 0 K M fun _ K=>?_;refine Jv K M rfl (Qa rfl (Qa rfl (Qa rfl (Qa rfl (Qa rfl (Qa hK.cell Qz)))))) Q8 fun c1 _ _ K M=>?_;refine au 4 K M ?_;intro c2 _ _ K _ M;refine p1 K (QG (b:=[116,114,117,101]) rfl rfl) fun _ K=>?_;refine Qb 1 K M fun _ K=>?_;refine Jt K rfl (fun h6=>?_) fun h6=>?_
 ·refine Qb 0 K M fun _ K=>?_;obtain⟨v8,st8,ev8,c9,rfl,hr1,hn1,q8⟩:=AY M.fresh 160;refine p1 K (Qf rfl ev8) fun _ K=>?_;replace M:=M.XR q8 hr1 hn1;refine au 2 K M ?_;intro _ _ K _ M;refine Jx ⟨.inr rfl,_,(Ud (JE K rfl (M.load (k:=0) rfl (QN Jr rfl))) (Q6 K rfl)),?_⟩
  have ho:o=[116,114,117,101]:=by assumption
  subst ho
  have hlp:Jc [116,114,117,101] nn=0:=by simp[Jc]
  refine⟨174,[.ptr c9 0 0],?_,?_,Fj _ _,M.qt⟩
  ·rw[show Qu [116,114,117,101] nn=0+1 from congrArg (· +1) hlp,hlp];try rfl
  ·exact Rq M.fresh (M.Ya (k:=2) rfl)
 refine Qb 0 K M fun _ K=>?_;refine p1 K (QG (b:=[115,117,98]) rfl rfl) fun _ K=>?_;refine Qb 1 K M fun _ K=>?_;refine Jt K rfl (fun h9=>?_) fun h9=>?_
 ·refine Qb 0 K M fun _ K=>?_;obtain⟨v11,st11,ev11,c9,rfl,hr1,hn1,q11⟩:=AY M.fresh 161;refine p1 K (Qf rfl ev11) fun _ K=>?_;replace M:=M.XR q11 hr1 hn1;refine au 2 K M ?_;intro _ _ K _ M;refine Jx ⟨.inr rfl,_,(Ud (JE K rfl (M.load (k:=0) rfl (QN Jr rfl))) (Q6 K rfl)),?_⟩
  have ho:o=[115,117,98]:=by assumption
  subst ho
  have hlp:Jc [115,117,98] nn=0:=by simp[Jc]
  refine⟨174,[.ptr c9 0 0],?_,?_,Fj _ _,M.qt⟩
  ·rw[show Qu [115,117,98] nn=0+1 from congrArg (· +1) hlp,hlp];try rfl
  ·exact Rp M.fresh (M.Ya (k:=2) rfl)
 refine Qb 0 K M fun _ K=>?_;refine p1 K (QG (b:=[110,111,110,101]) rfl rfl) fun _ K=>?_;refine Qb 1 K M fun _ K=>?_;refine Jt K rfl (fun h12=>?_) fun h12=>?_
 ·refine Qb 0 K M fun _ K=>?_;obtain⟨v14,st14,ev14,c9,rfl,hr1,hn1,q14⟩:=AY M.fresh 162;refine p1 K (Qf rfl ev14) fun _ K=>?_;replace M:=M.XR q14 hr1 hn1;refine au 2 K M ?_;intro _ _ K _ M;refine Jx ⟨.inr rfl,_,(Ud (JE K rfl (M.load (k:=0) rfl (QN Jr rfl))) (Q6 K rfl)),?_⟩
  have ho:o=[110,111,110,101]:=by assumption
  subst ho
  have hlp:Jc [110,111,110,101] nn=0:=by simp[Jc]
  refine⟨174,[.ptr c9 0 0],?_,?_,Fj _ _,M.qt⟩
  ·rw[show Qu [110,111,110,101] nn=0+1 from congrArg (· +1) hlp,hlp];try rfl
  ·exact Ro M.fresh (M.Ya (k:=2) rfl)
 refine Qb 0 K M fun _ K=>?_;refine p1 K (QG (b:=[117,110,105,111,110]) rfl rfl) fun _ K=>?_;refine Qb 1 K M fun _ K=>?_;refine Jt K rfl (fun h15=>?_) fun h15=>?_
 ·refine Qb 0 K M fun _ K=>?_;obtain⟨v17,st17,ev17,c9,rfl,hr1,hn1,q17⟩:=AY M.fresh 163;refine p1 K (Qf rfl ev17) fun _ K=>?_;replace M:=M.XR q17 hr1 hn1;refine au 2 K M ?_;intro _ _ K _ M;refine Jx ⟨.inr rfl,_,(Ud (JE K rfl (M.load (k:=0) rfl (QN Jr rfl))) (Q6 K rfl)),?_⟩
  have ho:o=[117,110,105,111,110]:=by assumption
  subst ho
  have hlp:Jc [117,110,105,111,110] nn=0:=by simp[Jc]
  refine⟨174,[.ptr c9 0 0],?_,?_,Fj _ _,M.qt⟩
  ·rw[show Qu [117,110,105,111,110] nn=0+1 from congrArg (· +1) hlp,hlp];try rfl
  ·exact Rn M.fresh (M.Ya (k:=2) rfl)
 refine Qb 0 K M fun _ K=>?_;refine p1 K (QG (b:=[105,110,116,101,114]) rfl rfl) fun _ K=>?_;refine Qb 1 K M fun _ K=>?_;refine Jt K rfl (fun h18=>?_) fun h18=>?_
 ·refine Qb 0 K M fun _ K=>?_;obtain⟨v20,st20,ev20,c9,rfl,hr1,hn1,q20⟩:=AY M.fresh 164;refine p1 K (Qf rfl ev20) fun _ K=>?_;replace M:=M.XR q20 hr1 hn1;refine au 2 K M ?_;intro _ _ K _ M;refine Jx ⟨.inr rfl,_,(Ud (JE K rfl (M.load (k:=0) rfl (QN Jr rfl))) (Q6 K rfl)),?_⟩
  have ho:o=[105,110,116,101,114]:=by assumption
  subst ho
  have hlp:Jc [105,110,116,101,114] nn=0:=by simp[Jc]
  refine⟨174,[.ptr c9 0 0],?_,?_,Fj _ _,M.qt⟩
  ·rw[show Qu [105,110,116,101,114] nn=0+1 from congrArg (· +1) hlp,hlp];try rfl
  ·exact Rm M.fresh (M.Ya (k:=2) rfl)
 refine Qb 0 K M fun _ K=>?_;refine p1 K (QG (b:=[109,105,110,117,115]) rfl rfl) fun _ K=>?_;refine Qb 1 K M fun _ K=>?_;refine Jt K rfl (fun h21=>?_) fun h21=>?_
 ·refine Qb 0 K M fun _ K=>?_;obtain⟨v23,st23,ev23,c9,rfl,hr1,hn1,q23⟩:=AY M.fresh 165;refine p1 K (Qf rfl ev23) fun _ K=>?_;replace M:=M.XR q23 hr1 hn1;refine au 2 K M ?_;intro _ _ K _ M;refine Jx ⟨.inr rfl,_,(Ud (JE K rfl (M.load (k:=0) rfl (QN Jr rfl))) (Q6 K rfl)),?_⟩
  have ho:o=[109,105,110,117,115]:=by assumption
  subst ho
  have hlp:Jc [109,105,110,117,115] nn=0:=by simp[Jc]
  refine⟨174,[.ptr c9 0 0],?_,?_,Fj _ _,M.qt⟩
  ·rw[show Qu [109,105,110,117,115] nn=0+1 from congrArg (· +1) hlp,hlp];try rfl
  ·exact Rl M.fresh (M.Ya (k:=2) rfl)
 refine Qb 0 K M fun _ K=>?_;refine p1 K (QG (b:=[115,105,110,103]) rfl rfl) fun _ K=>?_;refine Qb 1 K M fun _ K=>?_;refine Jt K rfl (fun h24=>?_) fun h24=>?_
 ·refine au 3 K M ?_;intro _ _ K _ M;refine Jx ⟨.inr rfl,_,(Ud (JE K rfl (M.load (k:=0) rfl (QN Jr rfl))) (Q6 K rfl)),?_⟩
  have ho:o=[115,105,110,103]:=by assumption
  subst ho
  have hlp:Jc [115,105,110,103] nn=1:=by simp[Jc]
  refine⟨166,[],?_,?_,Co _,M.qt⟩
  ·rw[show Qu [115,105,110,103] nn=1+1 from congrArg (· +1) hlp,hlp];try rfl
  ·exact fun st1 q s x y z hs=>Mg q.fresh nn s x y z hs
 refine Qb 0 K M fun _ K=>?_;refine p1 K (QG (b:=[102,108,97,103]) rfl rfl) fun _ K=>?_;refine Qb 1 K M fun _ K=>?_;refine Jt K rfl (fun h27=>?_) fun h27=>?_
 ·refine au 3 K M ?_;intro _ _ K _ M;refine Jx ⟨.inr rfl,_,(Ud (JE K rfl (M.load (k:=0) rfl (QN Jr rfl))) (Q6 K rfl)),?_⟩
  have ho:o=[102,108,97,103]:=by assumption
  subst ho
  have hlp:Jc [102,108,97,103] nn=1:=by simp[Jc]
  refine⟨167,[],?_,?_,Co _,M.qt⟩
  ·rw[show Qu [102,108,97,103] nn=1+1 from congrArg (· +1) hlp,hlp];try rfl
  ·exact fun st1 q s x y z hs=>yl q.fresh nn s x y z hs
 refine Qb 0 K M fun _ K=>?_;refine p1 K (QG (b:=[108,101,115,115]) rfl rfl) fun _ K=>?_;refine Qb 1 K M fun _ K=>?_;refine Jt K rfl (fun h30=>?_) fun h30=>?_
 ·refine au 3 K M ?_;intro _ _ K _ M;refine Jx ⟨.inr rfl,_,(Ud (JE K rfl (M.load (k:=0) rfl (QN Jr rfl))) (Q6 K rfl)),?_⟩
  have ho:o=[108,101,115,115]:=by assumption
  subst ho
  have hlp:Jc [108,101,115,115] nn=2:=by simp[Jc]
  refine⟨168,[],?_,?_,Co _,M.qt⟩
  ·rw[show Qu [108,101,115,115] nn=2+1 from congrArg (· +1) hlp,hlp];try rfl
  ·exact fun st1 q s x y z hs=>uI q.fresh nn s x y z hs
 refine Qb 0 K M fun _ K=>?_;refine p1 K (QG (b:=[112,108,117,115]) rfl rfl) fun _ K=>?_;refine Qb 1 K M fun _ K=>?_;refine Jt K rfl (fun h33=>?_) fun h33=>?_
 ·refine Qb 2 K M fun _ K=>?_;obtain⟨v37,st37,ev37,c8,c9,rfl,hr1,hr3,hn1,hn3,hne,q37⟩:=Si M.fresh nn hn;refine p1 K (Qf rfl ev37) fun _ K=>?_;replace M:=M.P3 q37 hr1 hr3 hn1 hn3 hne;refine au 2 K M ?_;intro _ _ K _ M;refine Jx ⟨.inr rfl,_,(Ud (JE K rfl (M.load (k:=0) rfl (QN Jr rfl))) (Q6 K rfl)),?_⟩
  have ho:o=[112,108,117,115]:=by assumption
  subst ho
  have hlp:Jc [112,108,117,115] nn=nn+1:=by simp[Jc]
  refine⟨175,[.ptr c8 0 0,.ptr c9 0 0],?_,?_,Cn _ _ _,M.qt⟩
  ·rw[show Qu [112,108,117,115] nn=nn+1+1 from congrArg (· +1) hlp,hlp];try rfl
  ·exact fun st1 q s x y z hs=>Pt q.fresh nn s x y z hs hn ((M.Ya (k:=2) rfl).later M.fresh q) ((M.Ya (k:=3) rfl).later M.fresh q)
 refine Qb 0 K M fun _ K=>?_;refine p1 K (QG (b:=[110,117,109]) rfl rfl) fun _ K=>?_;refine Qb 1 K M fun _ K=>?_;refine Jt K rfl (fun h38=>?_) fun h38=>?_
 ·refine Qb 2 K M fun _ K=>?_;obtain⟨v42,st42,ev42,c8,c9,rfl,hr1,hr3,hn1,hn3,hne,q42⟩:=MB M.fresh nn hn;refine p1 K (Qf rfl ev42) fun _ K=>?_;replace M:=M.P3 q42 hr1 hr3 hn1 hn3 hne;refine au 2 K M ?_;intro _ _ K _ M;refine Jx ⟨.inr rfl,_,(Ud (JE K rfl (M.load (k:=0) rfl (QN Jr rfl))) (Q6 K rfl)),?_⟩
  have ho:o=[110,117,109]:=by assumption
  subst ho
  have hlp:Jc [110,117,109] nn=nn+1:=by simp[Jc]
  refine⟨176,[.ptr c9 0 0,.ptr c8 0 0],?_,?_,Cn _ _ _,M.qt⟩
  ·rw[show Qu [110,117,109] nn=nn+1+1 from congrArg (· +1) hlp,hlp];try rfl
  ·exact fun st1 q s x y z hs=>RE q.fresh nn s x y z hs hn ((M.Ya (k:=2) rfl).later M.fresh q) ((M.Ya (k:=3) rfl).later M.fresh q)
 refine au 3 K M ?_;intro _ _ K _ M;refine Jx ⟨.inr rfl,_,(Ud (JE K rfl (M.load (k:=0) rfl (QN Jr rfl))) (Q6 K rfl)),?_⟩
 exfalso
 unfold VQ at hat
 simp_all

theorem Oz(hf:Qi st){c11 l v1:Nat}(hr:Qx st.h.get c11 0 [iN l])(hl:l≤64)(hv:v1≤6): ∃v st',Jf 139 [iN v1,.ptr c11 0 0] st v st'∧v=.bool (ZA l v1)∧Qt st st':=by
 refine J7 Tryz.func139 Tryz.ntmps139 fun T K=>?_;have M:=Mem.start hf;refine Qb 1 K M fun _ K=>?_;refine p1 K (Qg rfl (Qw (M.JF Q4 hr.Jb) (Qd Qn rfl))) fun _ K=>?_;refine Qb 1 K M fun _ K=>?_;refine p1 K (ZX (a:=l) (n:=v1) rfl rfl Qc) fun _ K=>p1 K (Z0 (a:=(l/2^v1)) rfl rfl (Nat.le_trans (Nat.div_le_self _ _) Qc)) fun _ K=>?_;refine Qb 2 K M ?_;exact⟨rfl,M.qt⟩

theorem aC {R : VN} (hf : Qi st) (hR : Yy R st.h.get) {o : List Nat} {an bn gn nn k : Nat} {l : List Cr} {cs : List AV} (hr : YI R (.mk o ((an : Nat) : Int) ((bn : Nat) : Int) ((gn : Nat) : Int) ((nn : Nat) : Int) l) cs) (hat : VQ o) (hn : nn ≤ 20) (ha6 : an ≤ 6) (hb6 : bn ≤ 6) (hg6 : gn ≤ 6) (hk6 : k ≤ 6) (hsz : Vg (.mk o ((an : Nat) : Int) ((bn : Nat) : Int) ((gn : Nat) : Int) ((nn : Nat) : Int) l) ≤ 2000) (hc : QV (.mk o ((an : Nat) : Int) ((bn : Nat) : Int) ((gn : Nat) : Int) ((nn : Nat) : Int) l) ((k : Nat) : Int) = true) : ∃ v st', Jf 110 [.agg cs, iN k] st v st' ∧ ∃ dp F m, v = .tup [.ptr dp 0 0, iZ 0] ∧ JR (Zo o an bn gn nn k) m ∧ UX st' F dp m ∧ ZP st st' F ∧ Qt st st' := by
 have hr0 := hr;obtain ⟨kc, ls, rfl, hK⟩ := hr.U0;have hln := hK.ln;have hbn := hK.W3;have hp6 := JG hk6;have hll := A6 (o := o) nn hn;have hsp : Qu o nn = Jc o nn + 1 := rfl;refine J7 Tryz.func110 Tryz.ntmps110 fun T K => ?_;have M := Mem.start hf;refine Qb 0 K M fun _ K => ?_;refine Jv K M rfl (Qa rfl (Qa rfl (Qa rfl (Qa rfl (Qa rfl (Qa hK.cell Qz)))))) Q8 fun c2 _ _ K M => ?_;refine Qb 3 K M fun _ K => ?_;obtain ⟨v18, st18, ev18, f, fc, rfl, hmach, hfe, q18⟩ := qD M.fresh (M.Yy hR) hr0 hat hn;refine p1 K (Qf rfl ev18) fun _ K => ?_;replace M := M.quiet q18;have hq0 := M.qt; have hc2 := M.Ya (k := 0) rfl; have hfm := M.fresh;replace hR := M.Yy hR;obtain ⟨st, rfl⟩ : ∃ s : St, s = st18 := ⟨_, rfl⟩;have B := Qk.start hfm;replace M := B.mem;refine au 9 K M ?_;intro c6 _ _ K _ M;refine pg K rfl rfl (Qg rfl (Qw ((B.step M).U5 hfm hc2.Jb id) (QN QW rfl))) fun _ K => ?_;refine Qb 1 K M fun _ K => ?_;obtain ⟨v26, st26, ev26, rfl, q26⟩ := TE M.fresh (fun c m l hr => (B.step M).U5 hfm (hR c m l hr) id) hr0 (m := ((k : Nat) : Int)) Qc Qc hsz hc;refine pg K rfl rfl (Qf rfl ev26) fun _ K => ?_;replace M := M.quiet q26;refine au 7 K M ?_;intro c8 _ _ K _ M;replace B := (B.step M).V9;have M := B.mem;refine Qb 4 K M fun _ K => ?_;refine QX (fun mm1 T st9 => ∃ (i : Nat) (vs : List AV) (Fr : Fp) (ka : AV) (Aa : QM) (kr : AV) (Ar : QM), mm1 = Qu o nn + 1 - i ∧ QS [(1, iN k), (2, .ptr c2 0 0), (4, .nilp), (5, iZ 0), (6, .ptr c6 0 0), (8, .ptr c8 0 0), (33, iZ (((((Qu o nn) : Nat) : Int) + 1))), (34, iN i)] T ∧ Qk st ZQ st9 ((c8, 0, [iN k, ka, kr]) :: (c6, 0, [(.fn f [] fc), iZ (Jc o nn : Nat), iZ (Qu o nn : Nat)]) :: (Aa ++ (Ar ++ []))) [EX Fr vs ((List.range i).map (Rs o nn an bn gn k))] ∧ i ≤ Qu o nn + 1 ∧ Acc 0 1 Aa ka (bC ((List.range i).map fun s => decide (((s : Nat) : Int) = ((Jc o nn : Nat) : Int)))) ∧ YS Ar kr vs) (fun mm1 T st9 hI => ?_) _ _ _ ⟨0, [], _, .nils, [], .nils, [], rfl, (K.sub rfl), (B.step M).less (.refl _), (Nat.zero_le _), .none, .none⟩;obtain ⟨i, vs, Fr, ka, Aa, kr, Ar, rfl, K, B, hi, hAa, hAr⟩ := hI;have M := B.mem;refine Qb 1 K M fun _ K => ?_;refine Jt K rfl (fun h35 => ?_) fun h35 => ?_
 · refine Qb 4 K M fun _ K => ?_;refine p1 K (US (n := k) rfl rfl Qc) fun _ K => ?_;refine Qb 1 K M fun _ K => ?_;refine QX (fun mm2 T st9 => ∃ (c : Nat) (kw : AV) (Aw : QM), mm2 = 2 ^ k - c ∧ QS [(1, iN k), (2, .ptr c2 0 0), (4, .nilp), (5, iZ 0), (6, .ptr c6 0 0), (8, .ptr c8 0 0), (9, iN i), (10, kw), (33, iZ (((((Qu o nn) : Nat) : Int) + 1))), (34, iN i), (35, .bool (decide (((i : Nat) : Int) < ((((Qu o nn) : Nat) : Int) + 1)))), (38, iZ (2 ^ k : Nat)), (39, iN c)] T ∧ Qk st ZQ st9 ((c8, 0, [iN k, ka, kr]) :: (c6, 0, [(.fn f [] fc), iZ (Jc o nn : Nat), iZ (Qu o nn : Nat)]) :: (Aa ++ (Ar ++ (Aw ++ [])))) [EX Fr vs ((List.range i).map (Rs o nn an bn gn k))] ∧ c ≤ 2 ^ k ∧ Acc 0 1 Aw kw (zC ((List.range c).map fun l => ((EP o nn an bn gn i l : Nat) : Int)))) (fun mm2 T st9 hI => ?_) _ _ _ ⟨0, .nils, [], rfl, (K.sub rfl), (B.step M).less (.refl _), (Nat.zero_le _), .none⟩;obtain ⟨c, kw, Aw, rfl, K, B, hcK, hAw⟩ := hI;have M := B.mem;refine Qb 1 K M fun _ K => ?_;refine Jt K rfl (fun h40 => ?_) fun h40 => ?_
   · refine au 3 K M ?_;intro c11 _ _ K _ M;refine p1 K (X9 rfl rfl) fun _ K => ?_;refine Qb 6 K M fun _ K => ?_;refine Jt K rfl (fun h46 => ?_) fun h46 => ?_
     · refine QA (l := [(3, 0), (4, 0), (5, 0), (6, 0), (7, 0), (8, 0), (9, 1), (10, 0), (11, 0), (12, 0), (13, 2), (14, 0), (0, 0), (1, 3), (2, 0), (15, 0), (16, 0)]) (by kernel_rfl) ?_;have Mq := M;have Mz0 := M;have Bz0 := B;refine Jo 2 K M fun _ K => ?_;refine q1 rfl K (Qg rfl (Qw ((B.step M).U5 hfm hc2.Jb id) (Qd Qn rfl))) fun _ K => ?_;have r11 := M.Ya (k := 0) rfl;obtain ⟨v53, st53, ev53, rfl, q53⟩ := Oz M.fresh (v1 := an) (l := c) r11 Qc Qc;refine qA rfl K (ZZ rfl rfl ev53) fun _ K => ?_;replace M := M.quiet q53;have Mp := Mq;have Mq := M;have Mz1 := M;have Bz1 := B;refine Jo 2 K M fun _ K => ?_;refine Ju rfl K rfl (Qw ((B.step M).U5 hfm hc2.Jb id) (Qd Qn rfl)) (Qw ((B.step Mp).U5 hfm hc2.Jb id) (Qd Qn rfl)) (JI rfl) rfl Q8 fun _ K => ?_;have r11 := M.Ya (k := 0) rfl;obtain ⟨v57, st57, ev57, rfl, q57⟩ := Oz M.fresh (v1 := bn) (l := c) r11 Qc Qc;refine qA rfl K (ZZ rfl rfl ev57) fun _ K => ?_;replace M := M.quiet q57;have Mp := Mq;have Mq := M;have Mz2 := M;have Bz2 := B;refine Jo 2 K M fun _ K => ?_
       refine XD rfl K rfl (Qw ((B.step M).U5 hfm hc2.Jb id) (Qd Qn rfl)) Q4 (by intro s hs; simp only [List.take_succ_cons, List.take_zero, List.mem_cons, List.not_mem_nil, or_false] at hs; rcases hs with rfl | rfl <;> first | exact (Qw ((Bz1.step Mz1).U5 hfm hc2.Jb id) (Qd Qn rfl)) | exact (Qw ((Bz0.step Mz0).U5 hfm hc2.Jb id) (Qd Qn rfl))) (JI rfl) rfl Q8 fun _ K => ?_
       have r11 := M.Ya (k := 0) rfl;obtain ⟨v61, st61, ev61, rfl, q61⟩ := Oz M.fresh (v1 := gn) (l := c) r11 Qc Qc;refine qA rfl K (ZZ rfl rfl ev61) fun _ K => ?_;replace M := M.quiet q61;have Mp := Mq;have Mq := M;have Mz3 := M;have Bz3 := B;refine Jo 1 K M fun _ K => ?_
       refine XD rfl K rfl (M.load (k := 2) rfl (Qd J5 rfl)) Q4 (by intro s hs; simp only [List.take_succ_cons, List.take_zero, List.mem_cons, List.not_mem_nil, or_false] at hs; rcases hs with rfl | rfl | rfl <;> first | exact (Mz2.load (k := 2) rfl (Qd J5 rfl)) | exact (Mz1.load (k := 2) rfl (Qd J5 rfl)) | exact (Mz0.load (k := 2) rfl (Qd J5 rfl))) hfe rfl Q8 fun _ K => ?_
       refine q1 rfl K (Qy rfl) fun _ K => ?_;obtain ⟨v62, st62, ev62, rfl, q62⟩ := hmach _ (B.step M).qt i (ZA c an) (ZA c bn) (ZA c gn) Qc;refine qA rfl K (ZZ rfl rfl ev62) fun _ K => ?_;replace M := M.quiet q62;have Mp := Mq;have Mq := M;have Mz4 := M;have Bz4 := B;refine q1 rfl K (JV rfl) fun _ K => QF ?_;show W _ _ _ _ _ _ _;refine Qb 2 K M fun _ K => ?_;refine Uq K rfl (fun h64 => ?_) fun h64 => ?_
       · have hb64 := h64;replace h64 := of_decide_eq_true h64;refine au 6 K M ?_;intro c69 _ _ K _ M;refine QZ (k2 := 0) (L := ((c69, 0, [iZ (Qu o nn : Nat)]) :: (c11, 0, [iN c]) :: (c8, 0, [iN k, ka, kr]) :: (c6, 0, [(.fn f [] fc), iZ (Jc o nn : Nat), iZ (Qu o nn : Nat)]) :: (Aa ++ (Ar ++ [])))) (B := []) K (Mem.cast M Ux) hAw QD rfl rfl rfl rfl (by rw [Qp, List.length_map, List.length_range]; omega) rfl fun ks70 A70 _ _ K hA70 M => ?_;simp only [XB] at M;have Mz5 := M;have Bz5 := B;refine Qb 3 K M fun _ K => ?_
         have hnx : iZ (EP o nn an bn gn i c : Nat) = iZ (Qu o nn : Nat) := by
           refine congrArg (AV.int .i64) ?_;unfold EP
           first
           | exact absurd rfl h64
           | (rw [if_neg Qc]; done)
           | (rw [if_pos Qc, if_pos (by assumption)]; done)
           | (rw [if_pos Qc, if_neg (by assumption)]
              rcases jm hat hn (show i < Qu o nn by omega) (ZA c an) (ZA c bn) (ZA c gn) with ⟨h1, _⟩ | ⟨t, h1, _⟩
              · exact absurd h1 (by assumption)
              · rw [h1]; rfl)
         have hrs : (List.range (c + 1)).map (fun l => ((EP o nn an bn gn i l : Nat) : Int)) = (List.range c).map (fun l => ((EP o nn an bn gn i l : Nat) : Int)) ++ [((EP o nn an bn gn i c : Nat) : Int)] := by rw [List.range_succ, List.map_append]; rfl
         exact ⟨_, Qc, c + 1, ks70, A70, rfl, (K.sub rfl), (B.step M).less (.cons _ (.cons _ (.refl _))), Qc, (by rw [hrs, JW, show zC [((EP o nn an bn gn i c : Nat) : Int)] = [[iZ (EP o nn an bn gn i c : Nat)]] from rfl, hnx]; exact hA70)⟩
       have hb64 := h64;replace h64 := of_decide_eq_false h64;refine au 3 K M ?_;intro c69 _ _ K _ M;refine QZ (k2 := 0) (L := ((c69, 0, [iZ ((Jp o nn i (ZA c an) (ZA c bn) (ZA c gn)))]) :: (c11, 0, [iN c]) :: (c8, 0, [iN k, ka, kr]) :: (c6, 0, [(.fn f [] fc), iZ (Jc o nn : Nat), iZ (Qu o nn : Nat)]) :: (Aa ++ (Ar ++ [])))) (B := []) K (Mem.cast M Ux) hAw QD rfl rfl rfl rfl (by rw [Qp, List.length_map, List.length_range]; omega) rfl fun ks70 A70 _ _ K hA70 M => ?_;simp only [XB] at M;have Mz5 := M;have Bz5 := B;refine Qb 3 K M fun _ K => ?_
       have hnx : iZ (EP o nn an bn gn i c : Nat) = iZ ((Jp o nn i (ZA c an) (ZA c bn) (ZA c gn))) := by
         refine congrArg (AV.int .i64) ?_;unfold EP
         first
         | exact absurd rfl h64
         | (rw [if_neg Qc]; done)
         | (rw [if_pos Qc, if_pos (by assumption)]; done)
         | (rw [if_pos Qc, if_neg (by assumption)]
            rcases jm hat hn (show i < Qu o nn by omega) (ZA c an) (ZA c bn) (ZA c gn) with ⟨h1, _⟩ | ⟨t, h1, _⟩
            · exact absurd h1 (by assumption)
            · rw [h1]; rfl)
       have hrs : (List.range (c + 1)).map (fun l => ((EP o nn an bn gn i l : Nat) : Int)) = (List.range c).map (fun l => ((EP o nn an bn gn i l : Nat) : Int)) ++ [((EP o nn an bn gn i c : Nat) : Int)] := by rw [List.range_succ, List.map_append]; rfl
       exact ⟨_, Qc, c + 1, ks70, A70, rfl, (K.sub rfl), (B.step M).less (.cons _ (.cons _ (.refl _))), Qc, (by rw [hrs, JW, show zC [((EP o nn an bn gn i c : Nat) : Int)] = [[iZ (EP o nn an bn gn i c : Nat)]] from rfl, hnx]; exact hA70)⟩
     refine Qb 2 K M fun _ K => ?_;refine Uq K rfl (fun h64 => ?_) fun h64 => ?_
     · have hb64 := h64;replace h64 := of_decide_eq_true h64;refine au 6 K M ?_;intro c69 _ _ K _ M;refine QZ (k2 := 0) (L := ((c69, 0, [iZ (Qu o nn : Nat)]) :: (c11, 0, [iN c]) :: (c8, 0, [iN k, ka, kr]) :: (c6, 0, [(.fn f [] fc), iZ (Jc o nn : Nat), iZ (Qu o nn : Nat)]) :: (Aa ++ (Ar ++ [])))) (B := []) K (Mem.cast M Ux) hAw QD rfl rfl rfl rfl (by rw [Qp, List.length_map, List.length_range]; omega) rfl fun ks70 A70 _ _ K hA70 M => ?_;simp only [XB] at M;refine Qb 3 K M fun _ K => ?_
       have hnx : iZ (EP o nn an bn gn i c : Nat) = iZ (Qu o nn : Nat) := by
         refine congrArg (AV.int .i64) ?_;unfold EP
         first
         | exact absurd rfl h64
         | (rw [if_neg Qc]; done)
         | (rw [if_pos Qc, if_pos (by assumption)]; done)
         | (rw [if_pos Qc, if_neg (by assumption)]
            rcases jm hat hn (show i < Qu o nn by omega) (ZA c an) (ZA c bn) (ZA c gn) with ⟨h1, _⟩ | ⟨t, h1, _⟩
            · exact absurd h1 (by assumption)
            · rw [h1]; rfl)
       have hrs : (List.range (c + 1)).map (fun l => ((EP o nn an bn gn i l : Nat) : Int)) = (List.range c).map (fun l => ((EP o nn an bn gn i l : Nat) : Int)) ++ [((EP o nn an bn gn i c : Nat) : Int)] := by rw [List.range_succ, List.map_append]; rfl
       exact ⟨_, Qc, c + 1, ks70, A70, rfl, (K.sub rfl), (B.step M).less (.cons _ (.cons _ (.refl _))), Qc, (by rw [hrs, JW, show zC [((EP o nn an bn gn i c : Nat) : Int)] = [[iZ (EP o nn an bn gn i c : Nat)]] from rfl, hnx]; exact hA70)⟩
     have hb64 := h64;replace h64 := of_decide_eq_false h64;refine au 3 K M ?_;intro c69 _ _ K _ M;refine QZ (k2 := 0) (L := ((c69, 0, [iZ (-1)]) :: (c11, 0, [iN c]) :: (c8, 0, [iN k, ka, kr]) :: (c6, 0, [(.fn f [] fc), iZ (Jc o nn : Nat), iZ (Qu o nn : Nat)]) :: (Aa ++ (Ar ++ [])))) (B := []) K (Mem.cast M Ux) hAw QD rfl rfl rfl rfl (by rw [Qp, List.length_map, List.length_range]; omega) rfl fun ks70 A70 _ _ K hA70 M => ?_;simp only [XB] at M;refine Qb 3 K M fun _ K => ?_
     have hnx : iZ (EP o nn an bn gn i c : Nat) = iZ (-1) := by
       refine congrArg (AV.int .i64) ?_;unfold EP
       first
       | exact absurd rfl h64
       | (rw [if_neg Qc]; done)
       | (rw [if_pos Qc, if_pos (by assumption)]; done)
       | (rw [if_pos Qc, if_neg (by assumption)]
          rcases jm hat hn (show i < Qu o nn by omega) (ZA c an) (ZA c bn) (ZA c gn) with ⟨h1, _⟩ | ⟨t, h1, _⟩
          · exact absurd h1 (by assumption)
          · rw [h1]; rfl)
     have hrs : (List.range (c + 1)).map (fun l => ((EP o nn an bn gn i l : Nat) : Int)) = (List.range c).map (fun l => ((EP o nn an bn gn i l : Nat) : Int)) ++ [((EP o nn an bn gn i c : Nat) : Int)] := by rw [List.range_succ, List.map_append]; rfl
     exact ⟨_, Qc, c + 1, ks70, A70, rfl, (K.sub rfl), (B.step M).less (.cons _ (.cons _ (.refl _))), Qc, (by rw [hrs, JW, show zC [((EP o nn an bn gn i c : Nat) : Int)] = [[iZ (EP o nn an bn gn i c : Nat)]] from rfl, hnx]; exact hA70)⟩
   refine QK ?_;show W _ _ _ _ _ _ _;refine Jy ?_
   have hce : c = 2 ^ k := by omega
   rw [hce] at hAw;refine Qb 1 K M fun _ K => ?_;refine p1 K (Qg rfl (M.load (k := 0) rfl (Qd Q7 rfl))) fun _ K => ?_;refine Qb 1 K M fun _ K => ?_;refine Xo K M QQ Ut rfl ((JB rfl hAw.cell rfl).trans rfl) (Qa hAw.cell Qz) rfl rfl fun c75 _ _ K M => ?_;refine YL (k2 := 0) (L := ((c75, 0, [kw]) :: (c8, 0, [iN k, ka, kr]) :: (c6, 0, [(.fn f [] fc), iZ (Jc o nn : Nat), iZ (Qu o nn : Nat)]) :: (Aa ++ []))) (B := (Aw ++ [])) K (Mem.cast M Ux) hAr QQ rfl rfl rfl (by have := Zl.ln ((B.step M).at_ (k := 0) rfl); rw [List.length_map, List.length_range] at this; omega) rfl fun ks76 A76 _ _ K hA76 _ M => ?_;simp only [XB] at M;refine Qb 1 K M fun _ K => ?_;refine Jk (k := 1) K M rfl rfl rfl Uv (hA76.cell) rfl fun _ M => ?_;refine au 7 K M ?_;intro c84 _ _ K _ M;refine QZ (k2 := 0) (L := [(c84, 0, [.bool (decide (((i : Nat) : Int) = (((Jc o nn) : Nat) : Int)))]), (c75, 0, [kw]), (c8, 0, [iN k, ka, ks76]), (c6, 0, [(.fn f [] fc), iZ (Jc o nn : Nat), iZ (Qu o nn : Nat)])]) (B := (A76 ++ (Aw ++ []))) K M hAa J3 rfl rfl rfl rfl (by rw [Up, List.length_map, List.length_range]; omega) rfl fun ks85 A85 _ _ K hA85 M => ?_;refine Qb 1 K M fun _ K => ?_;refine Jk (k := 2) K M rfl rfl rfl UG (hA85.cell) rfl fun _ M => ?_;refine Qb 2 K M fun _ K => ?_;replace B := B.step M;obtain ⟨Fr, B⟩ := Qk.ZD (L := ((c84, 0, [.bool (decide (((i : Nat) : Int) = (((Jc o nn) : Nat) : Int)))]) :: (c75, 0, [kw]) :: (c8, 0, [iN k, ks85, ks76]) :: (c6, 0, [(.fn f [] fc), iZ (Jc o nn : Nat), iZ (Qu o nn : Nat)]) :: (A85 ++ (A76 ++ [])))) (B := []) (B.cast Ux) hAw (fun z hz => by obtain ⟨l, _, rfl⟩ := List.mem_map.1 hz; have := uf (a := an) (b := bn) (d := gn) hat hn i l; omega);replace B := B.cast (M' := ((c84, 0, [.bool (decide (((i : Nat) : Int) = (((Jc o nn) : Nat) : Int)))]) :: (c75, 0, [kw]) :: (c8, 0, [iN k, ks85, ks76]) :: (c6, 0, [(.fn f [] fc), iZ (Jc o nn : Nat), iZ (Qu o nn : Nat)]) :: (A85 ++ (A76 ++ [])))) Ux;have M := B.mem
   have hrr : (List.range (i + 1)).map (Rs o nn an bn gn k) = (List.range i).map (Rs o nn an bn gn k) ++ [(List.range (2 ^ k)).map fun l => ((EP o nn an bn gn i l : Nat) : Int)] := by rw [List.range_succ, List.map_append]; rfl
   rw [← hrr] at B;have M := B.mem;exact ⟨_, Qc, i + 1, _, _, ks85, A85, ks76, A76, rfl, (K.sub rfl), (B.step M).less (.cons _ (.cons _ (.refl _))), Qc, (by rw [List.range_succ, List.map_append, XZ]; exact hA85), hA76⟩
 refine QK ?_;show W _ _ _ _ _ _ _;refine Qb 1 K M fun _ K => ?_;replace B := B.step M
 have hie : i = Qu o nn + 1 := by omega
 subst hie;have hwf := jE (a := an) (b := bn) (d := gn) (k := k) hat hn hk6;obtain ⟨Fo, B⟩ := Qk.B6 (L := ((c8, 0, [iN k, ka, kr]) :: (c6, 0, [(.fn f [] fc), iZ (Jc o nn : Nat), iZ (Qu o nn : Nat)]) :: (Aa ++ []))) (B := []) (B.cast Ux) hAr;replace B := B.cast (M' := ((c8, 0, [iN k, ka, kr]) :: (c6, 0, [(.fn f [] fc), iZ (Jc o nn : Nat), iZ (Qu o nn : Nat)]) :: (Aa ++ []))) Ux;have M := B.mem;obtain ⟨v90, st90, ev90, dq2, F2, rfl, hD2, nf2, q90⟩ := Ed (a := V5 o an bn gn nn k) B.fresh hwf (Mem.Ys (L := [(c8, 0, [iN k, ka, kr]), (c6, 0, [(.fn f [] fc), iZ (Jc o nn : Nat), iZ (Qu o nn : Nat)])]) (B := []) M hAa) (X3.r (B.at_ (k := 0) rfl));refine p1 K (Qf rfl ev90) fun _ K => ?_;replace B := B.new (o := Iv F2 dq2 (V5 o an bn gn nn k)) q90 hD2.at_ nf2;have M := B.mem;refine Qb 7 K M fun _ K => ?_;refine Uq K rfl (fun h94 => ?_) fun h94 => ?_
 · have hb94 := h94
   replace h94 : ¬ (0 = 0) := by first | exact of_decide_eq_false h94 | exact yF h94 | simpa using h94
   exfalso; omega
 have hb94 := h94
 replace h94 : (0 = 0) := by first | exact of_decide_eq_true h94 | exact yT h94 | simpa using h94
 refine Qb 1 K M fun _ K => ?_;replace B := B.step M;obtain ⟨v97, st97, ev97, dp3, F3, m, rfl, hlm, hD3, nf3, q97⟩ := Ts B.fresh (B.qS (k := 0) rfl);refine p1 K (Qf rfl ev97) fun _ K => ?_;have hle3 := B.le;replace B := B.quiet q97;have M := B.mem;refine Qb 4 K M ?_;exact ⟨dp3, F3, m, rfl, hlm.atom hat hn, hD3, fun c hc => ⟨Nat.le_trans hq0.le (Nat.le_trans hle3 (nf3 c hc).1), (nf3 c hc).2⟩, hq0.trans (B.step M).qt⟩
end
end Go.Proofs.YtiknomepbklibaaGreatDoor
