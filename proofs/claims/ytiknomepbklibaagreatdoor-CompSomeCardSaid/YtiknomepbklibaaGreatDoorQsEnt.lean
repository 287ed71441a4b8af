/-
  Both of two automata: the reference's answer.
-/
import Derived.Test.YtiknomepbklibaaGreatDoorQsR22A
set_option maxHeartbeats 8000000
set_option maxRecDepth 100000
set_option linter.unnecessarySimpa false
set_option linter.unusedSectionVars false
set_option linter.unusedSimpArgs false
set_option linter.unusedVariables false
namespace Go.Proofs.YtiknomepbklibaaGreatDoor
open Go Go.RowKit
section

theorem Aq{a:Au}{i:Nat}{y:Bool}(h:a.acc[i]? =some y):a.ok i=y:=by unfold Au.ok;rw[h];rfl
theorem HC(n:Nat):(n % 2==1)=decide (((n % 2:Nat):Int)=1):=by
 have h:n % 2=0∨n % 2=1:=by omega
 rcases h with h|h<;>rw[h]<;>rfl
def KW(st:St)(mp:Nat)(a:Au)(ka kn:AV)(ls:List (List AV)):Prop:= ∀h':Hp,(∀c,c<st.n→c≠mp→h' c=st.h.get c)→Jg h' [] 1 (bC a.acc) ka∧OC h' a.nx kn ls
def zG(st st':St)(a b:Au)(t mp l:Nat)(v:AV):Prop:=
 (∃x lp m,v=.tup [x,.int .i64 0]∧I6 a b t lp m∧AP st st' m x∧Qx st'.h.get mp 0 [.int .i64 (l-lp.length:Nat),.bool false])∨
 (∃(lp:List (Nat×Nat)),v=.tup [.agg [.int .i64 0,.nils,.nils],.int .i64 8]∧lp.length=401∧lp.Nodup∧(∀(Q:Nat×Nat→Prop),Q (0,0)→(∀p c,Q p→c<2^a.tr→Q (OA a b p c))→ ∀p∈lp,Q p)∧Qx st'.h.get mp 0 [.int .i64 (l-401:Nat),.bool false])

theorem R2{st:St}(hf:Qi st){a b:Au}(wfa:Zp a)(wfb:Zp b){ka kn kb km:AV}{ls ls2:List (List AV)}{mp l:Nat}(hA:KW st mp a ka kn ls)(hB:KW st mp b kb km ls2)(ht:b.tr=a.tr){t:Nat}(ht15:t≤15)(hm:Qx st.h.get mp 0 [iN l,.bool false])(hl1:401≤l)(hl:l≤9223372036854775807): ∃v st',Jf 14 [.agg [iZ (a.tr:Nat),ka,kn],.agg [iZ (b.tr:Nat),kb,km],iN t,.ptr mp 0 0] st v st'∧zG st st' a b t mp l v∧UQ (fun c=>c=mp) st st':=by
 have hac:=(hA _ fun c _ _=>rfl).1.cell;have hnc:=(hA _ fun c _ _=>rfl).2.r.cell;have hbc:=(hB _ fun c _ _=>rfl).1.cell;have hmc:=(hB _ fun c _ _=>rfl).2.r.cell;have htr:=wfa.tr;have hp6:=JG htr;have hp0:0<2^a.tr:=Nat.two_pow_pos _;have hlna:=wfa.len;have hlnb:=wfb.len;have hena:a.n=a.acc.length:=rfl;have henb:b.n=b.acc.length:=rfl
 have htp:2^b.tr=2^a.tr:=by rw[ht]
 have B:=Qk.UK (o:=Yr mp l false) hf hm (fun c hc=>(show c=mp from hc)▸hm.lt hf);refine J7 Tryz.func14 Tryz.ntmps14 fun T K=>?_;have M:=B.mem;refine Qb 0 K M fun _ K=>?_;refine Jv K M rfl (Qa rfl (Qa ((hA _ fun c h1 h2=>(B.step M).J9 c h1 h2).1).cell (Qa (hA _ fun c h1 h2=>(B.step M).J9 c h1 h2).2.r.cell Qz))) Q8 fun c4 _ _ K M=>?_;refine Jv K M rfl (Qa rfl (Qa ((hB _ fun c h1 h2=>(B.step M).J9 c h1 h2).1).cell (Qa (hB _ fun c h1 h2=>(B.step M).J9 c h1 h2).2.r.cell Qz))) Q8 fun c5 _ _ K M=>?_;refine au 7 K M ?_;intro c8 _ _ K _ M;refine qR K rfl (fun _ e23 K=>?_) fun _ e23 K=>?_
 ·refine Qb 3 K M fun _ K=>?_;refine Ug K rfl (fun _ e27 K=>?_) fun _ e27 K=>?_
  ·refine Qb 3 K M fun _ K=>?_;refine Jt K rfl (fun h30=>?_) fun h30=>?_
   ·exfalso;omega
   refine au 8 K M ?_;intro c10 c36 _ _ K _ M;replace B:=B.step M;obtain⟨Fl0,B⟩:=Qk.VK (z:=2) (ks:=.sl c36 0 0 1 2) (ls:=KZ [(0,0)]) (A:=[(c36,0,[iZ 0,iZ 0])]) (M:=[(c10,0,[iZ (a.tr:Nat),.nils,.nils]),(c8,0,[iZ 0,.nils,.nils]),(c5,0,[iZ (b.tr:Nat),kb,km]),(c4,0,[iZ (a.tr:Nat),ka,kn])]) B (Acc.own (n0:=0) (z:=2) (c:=c36) (m:=0) (ls:=KZ [(0,0)]) (Nat.zero_le _) (by simp[KZ]) (by simp[KZ]));have hkl0:Qr (.sl c36 0 0 1 2)=true:=rfl;have M:=B.mem;refine Qb 1 K M fun _ K=>?_;replace B:=B.step M;obtain⟨v38,st38,ev38,rfl,hms38,Qs38⟩:=VX B.fresh (show Qx _ mp 0 [iN l,.bool false]from B.at_ (k:=1) rfl) Qc Qc 1;refine p1 K (Qf rfl ev38) fun _ K=>?_;replace B:=B.call (k:=1) (o':=Yr mp (l-1) false) rfl Qs38 hms38 (UC fun c hc=>Nat.lt_of_lt_of_le (B.Y3 (k:=1) rfl c hc) Qs38.le);have M:=B.mem;refine Qb 2 K M fun _ K=>?_;replace B:=(B.step M).V9;have M:=B.mem;refine Qb 1 K M fun _ K=>?_;refine QX (fun mm1 T st9=> ∃(i:Nat) (lp:List (Nat×Nat)) (kl:AV) (Fl:Fp) (rows:List (List Int)) (vs:List AV) (F:Fp) (ka4:AV) (Aa:QM) (kr4:AV) (Ar:QM),mm1=400-i∧QS [(2,iN t),(3,.ptr mp 0 0),(4,.ptr c4 0 0),(5,.ptr c5 0 0),(8,.ptr c8 0 0),(10,.ptr c10 0 0),(11,kl),(12,iN i)] T∧Qk st (Yr mp l false).F st9 ((c10,0,[iZ (a.tr:Nat),ka4,kr4])::(c8,0,[iZ 0,.nils,.nils])::(c5,0,[iZ (b.tr:Nat),kb,km])::(c4,0,[iZ (a.tr:Nat),ka,kn])::(Aa++(Ar++[]))) [EX F vs rows,Wz Fl 2 kl (KZ lp),Yr mp (l-lp.length) false]∧V1 (OA a b) (0,0) (2^a.tr) lp rows []∧rows.length=i∧i≤lp.length∧lp.length≤400∧Acc 0 1 Aa ka4 (bC ((lp.take i).map (I7 a b t)))∧YS Ar kr4 vs) (fun mm1 T st9 hI=>?_) _ _ _ ⟨0,[(0,0)],_,Fl0,[],[],_,.nils,[],.nils,[],rfl,(K.sub rfl),(B.step M).less (.refl _),(V1.start _ _ _),rfl,Q8,Q8,.none,.none⟩;obtain⟨i,lp,kl,Fl,rows,vs,F,ka4,Aa,kr4,Ar,rfl,K,B,hP,hrl,hil,hlp,hAa,hAr⟩:=hI;have M:=B.mem;have hall:=hP.jN wfa wfb ht;refine Qb 2 K M fun _ K=>?_;refine p1 K (Q5 Ul rfl rfl ((UZ.len ((B.step M).at_ (k:=1) rfl)).trans (congrArg some (YN _)))) fun _ K=>?_;refine Qb 1 K M fun _ K=>?_;refine Jt K rfl (fun h44=>?_) fun h44=>?_
   ·refine Qb 2 K M fun _ K=>?_;refine QX (fun mm2 T st9=> ∃(c:Nat) (lp2:List (Nat×Nat)) (kl2:AV) (Fl2:Fp) (row:List Int) (kw:AV) (Aw:QM),mm2=2^a.tr-c∧QS [(2,iN t),(3,.ptr mp 0 0),(4,.ptr c4 0 0),(5,.ptr c5 0 0),(8,.ptr c8 0 0),(10,.ptr c10 0 0),(11,kl2),(12,iN i),(13,kw),(14,iN c),(44,.bool (decide (((i:Nat):Int)<((lp.length:Nat):Int))))] T∧Qk st (Yr mp l false).F st9 ((c10,0,[iZ (a.tr:Nat),ka4,kr4])::(c8,0,[iZ 0,.nils,.nils])::(c5,0,[iZ (b.tr:Nat),kb,km])::(c4,0,[iZ (a.tr:Nat),ka,kn])::(Aa++(Ar++(Aw++[])))) [EX F vs rows,Wz Fl2 2 kl2 (KZ lp2),Yr mp (l-lp2.length) false]∧V1 (OA a b) (0,0) (2^a.tr) lp2 rows row∧row.length=c∧c≤2^a.tr∧lp2.length≤400∧lp2.take (i+1)=lp.take (i+1)∧Acc 0 1 Aw kw (zC row)) (fun mm2 T st9 hI=>?_) _ _ _ ⟨0,lp,kl,Fl,[],.nils,[],rfl,(K.sub rfl),(B.step M).less (.refl _),hP,rfl,(Nat.zero_le _),hlp,rfl,.none⟩;obtain⟨c,lp2,kl2,Fl2,row,kw,Aw,rfl,K,B,hP2,hrow,hcK,hl2,htk,hAw⟩:=hI;have M:=B.mem;have hall2:=hP2.jN wfa wfb ht;have hi2:=Uu htk Qc;refine Qb 3 K M fun _ K=>?_;refine p1 K (U8 (c:=((a.tr:Nat):Int)) UR Uz rfl (IntWalk.u64_in _ Qc)) fun _ K=>p1 K (US (n:=a.tr) rfl rfl Qc) fun _ K=>?_;refine Qb 1 K M fun _ K=>?_;refine Jt K rfl (fun h52=>?_) fun h52=>?_
    ·refine Qb 2 K M fun _ K=>?_;refine QA (l:=[(0,0),(1,0),(2,0),(3,0),(4,0),(5,0),(6,0),(7,0),(8,0),(9,0),(10,0),(11,0),(12,0),(13,0),(14,0),(15,0),(16,0),(17,0),(18,0),(19,0),(20,0),(21,0),(22,0),(23,0),(24,0),(25,0),(26,0),(27,0),(28,0),(29,0),(30,0),(31,0),(32,0),(33,0)]) (by kernel_rfl) ?_;refine Jo 2 K M fun _ K=>?_;refine q1 rfl K (Qg rfl (M.load (k:=3) rfl (Qd Q7 rfl))) fun _ K=>?_;refine Jo 2 K M fun _ K=>?_;obtain⟨pr61,hi61⟩:=Uy lp2 i Qc;have hpb61:=hall2 pr61 (List.mem_of_getElem? hi61);obtain⟨x61,m61,f61,q61,_,la61,lo61,lp61⟩:=(UZ.rd ((B.step M).at_ (k:=1) rfl)).load (i:=i) (cs:=_) (El hi61);refine q1 rfl K (Qe (j:=i) Uo (congrArg some q61) rfl (by rw[YN];omega)) fun _ K=>?_;refine Jo 1 K M fun _ K=>?_;refine q1 rfl K (Qg rfl (lo61 _ 0 _ Qn rfl)) fun _ K=>?_;obtain⟨s64,hi64⟩:=Uy a.nx (pr61.1) Qc;obtain⟨_,hc64,w64,rfl,hr64,hz64⟩:=(hA _ fun c h1 h2=>(B.step M).J9 c h1 h2).2.at_ _ _ hi64;have hw64:=wfa.row s64 (List.mem_of_getElem? hi64);have hl64:s64.length=2^a.tr:=hw64.1;refine dI rfl rfl (EN.r (hA _ fun c h1 h2=>(B.step M).J9 c h1 h2).2) hc64 K QY Ja rfl rfl rfl fun _ _ _ _ K=>?_;refine q1 rfl K (Qy rfl) fun _ K=>?_;obtain⟨y67,hi67⟩:=Uy s64 c Qc;have hb67:=hw64.2 y67 (List.mem_of_getElem? hi67);obtain⟨z67,rfl⟩: ∃m:Nat,y67=((m:Nat):Int):=⟨_,(Int.toNat_of_nonneg hb67.1).symm⟩;refine dI rfl rfl hr64 (Jm hi67) K Qo Qn rfl rfl rfl fun _ _ _ _ K=>?_;refine Jo 1 K M fun _ K=>?_;refine q1 rfl K (Qg rfl (M.load (k:=2) rfl (Qd Q7 rfl))) fun _ K=>?_;refine Jo 2 K M fun _ K=>?_;obtain⟨x73,m73,f73,q73,_,la73,lo73,lp73⟩:=(UZ.rd ((B.step M).at_ (k:=1) rfl)).load (i:=i) (cs:=_) (El hi61);refine q1 rfl K (Qe (j:=i) Uo (congrArg some q73) rfl (by rw[YN];omega)) fun _ K=>?_;refine Jo 1 K M fun _ K=>?_;refine q1 rfl K (Qg rfl (lo73 _ 1 _ Qn rfl)) fun _ K=>?_;obtain⟨s76,hi76⟩:=Uy b.nx (pr61.2) Qc;obtain⟨_,hc76,w76,rfl,hr76,hz76⟩:=(hB _ fun c h1 h2=>(B.step M).J9 c h1 h2).2.at_ _ _ hi76;have hw76:=wfb.row s76 (List.mem_of_getElem? hi76);have hl76:s76.length=2^b.tr:=hw76.1;refine dI rfl rfl (EN.r (hB _ fun c h1 h2=>(B.step M).J9 c h1 h2).2) hc76 K QY Ja rfl rfl rfl fun _ _ _ _ K=>?_;refine q1 rfl K (Qy rfl) fun _ K=>?_;obtain⟨y79,hi79⟩:=Uy s76 c Qc;have hb79:=hw76.2 y79 (List.mem_of_getElem? hi79);obtain⟨z79,rfl⟩: ∃m:Nat,y79=((m:Nat):Int):=⟨_,(Int.toNat_of_nonneg hb79.1).symm⟩;refine dI rfl rfl hr76 (Jm hi79) K Qo Qn rfl rfl rfl fun _ _ _ _ K=>?_;refine Jo 1 K M fun _ K=>?_;replace B:=B.step M;obtain⟨v82,st82,ev82,kl3,k3,was3,lp3,F3,rfl,hO3,mf3,Q3,hnum⟩:=Ms B.fresh (B.at_ (k:=1) rfl) (B.Y3 (k:=1) rfl) Qc (z67,z79);refine qA rfl K (Qf rfl ev82) fun _ K=>?_;replace B:=B.call (k:=1) (o':=Wz F3 2 kl3 (KZ lp3)) rfl Q3 hO3 mf3;have hnl:=hnum.len;have M:=B.mem;refine Jo 7 K M fun _ K=>?_;refine QF ?_;show W _ _ _ _ _ _ _;refine Qb 2 K M fun _ K=>?_;refine oB K (Qy rfl) rfl fun b88 _ e88 K=>?_;cases b88
     ·replace e88:(was3)=true:=by simpa using e88
      refine au 10 K M ?_;intro c98 _ _ K _ M;refine QZ (k2:=0) (L:=((c98,0,[iN k3])::(c10,0,[iZ (a.tr:Nat),ka4,kr4])::(c8,0,[iZ 0,.nils,.nils])::(c5,0,[iZ (b.tr:Nat),kb,km])::(c4,0,[iZ (a.tr:Nat),ka,kn])::(Aa++(Ar++[])))) (B:=[]) K (Mem.cast M Ux) hAw QD rfl rfl rfl rfl (by rw[Qp];omega) rfl fun ks99 A99 _ _ K hA99 M=>?_;simp only[XB]at M;refine Qb 4 K M fun _ K=>?_;replace B:=B.step M;rw[show(l-lp2.length)=l-lp3.length by have:=hnl;first|omega|(simp_all;done)|(simp_all;omega)]at B;have M:=B.mem
      have hgo:OA a b pr61 row.length=(z67,z79):=by unfold OA;rw[hrow,JH hi64 hi67,JH hi76 hi79];rfl
      have hP3:=hnum.pr hP2 Qc (show lp2[rows.length]? =some pr61 by rw[hrl];exact hi61) hgo;exact⟨_,Qc,c+1,lp3,_,F3,(row++[((k3:Nat):Int)]),ks99,A99,rfl,(K.sub rfl),(B.step M).less (.cons _ (.refl _)),hP3,(by rw[List.length_append,hrow];rfl),Qc,(by have:=hnl;first|omega|(simp_all;done)|(simp_all;omega)),(by rw[hnum.take hi2,htk]),(by rw[JW];exact hA99)⟩
     replace e88:(was3)=false:=by simpa using e88
     refine Qb 2 K M fun _ K=>?_;refine pg K rfl rfl (Q5 Ul rfl rfl ((UZ.len ((B.step M).at_ (k:=1) rfl)).trans (congrArg some (YN _)))) fun _ K=>?_;replace B:=B.step M;obtain⟨v92,st92,ev92,rfl,hms92,Qs92⟩:=VX B.fresh (show Qx _ mp 0 [iZ (l-lp2.length:Nat),.bool false]from B.at_ (k:=2) rfl) Qc Qc lp3.length;refine pg K rfl rfl (Qf rfl ev92) fun _ K=>?_;replace B:=B.call (k:=2) (o':=Yr mp (l-lp2.length-1) false) rfl Qs92 hms92 (UC fun c hc=>Nat.lt_of_lt_of_le (B.Y3 (k:=2) rfl c hc) Qs92.le);have M:=B.mem;refine Qb 2 K M fun _ K=>?_;refine Uq K rfl (fun h94=>?_) fun h94=>?_
     ·have hb94:=h94
      replace h94: ¬((lp3.length:Int)≤400):=by first|exact of_decide_eq_false h94|exact yF h94|simpa using h94
      refine au 3 K M ?_;intro _ _ K _ M;refine Jx ⟨.inr rfl,_,(Ud (JE K rfl (M.load (k:=1) rfl (QN Jj rfl))) (Q6 K rfl)),?_⟩
      have hgo:OA a b pr61 row.length=(z67,z79):=by unfold OA;rw[hrow,JH hi64 hi67,JH hi76 hi79];rfl
      have hP3:=hnum.pr hP2 Qc (show lp2[rows.length]? =some pr61 by rw[hrl];exact hi61) hgo;replace B:=B.step M
      have h401:lp3.length=401:=by have:=hnl;omega
      have hmt:Qx _ mp 0 [iZ (l-lp2.length-1:Nat),.bool false]:=B.at_ (k:=2) rfl;rw[show l-lp2.length-1=l-401 by have:=hnl;first|omega|(simp_all;done)|(simp_all;omega)]at hmt;exact⟨.inr ⟨lp3,rfl,h401,hP3.nodup,fun Q h0 hs p hp=>hP3.all h0 hs (Nat.two_pow_pos _) hp,hmt⟩,B.JM⟩
     have hb94:=h94
     replace h94:((lp3.length:Int)≤400):=by first|exact of_decide_eq_true h94|exact yT h94|simpa using h94
     refine au 3 K M ?_;intro c98 _ _ K _ M;refine QZ (k2:=0) (L:=((c98,0,[iN k3])::(c10,0,[iZ (a.tr:Nat),ka4,kr4])::(c8,0,[iZ 0,.nils,.nils])::(c5,0,[iZ (b.tr:Nat),kb,km])::(c4,0,[iZ (a.tr:Nat),ka,kn])::(Aa++(Ar++[])))) (B:=[]) K (Mem.cast M Ux) hAw QD rfl rfl rfl rfl (by rw[Qp];omega) rfl fun ks99 A99 _ _ K hA99 M=>?_;simp only[XB]at M;refine Qb 4 K M fun _ K=>?_;replace B:=B.step M;rw[show(l-lp2.length-1)=l-lp3.length by have:=hnl;first|omega|(simp_all;done)|(simp_all;omega)]at B;have M:=B.mem
     have hgo:OA a b pr61 row.length=(z67,z79):=by unfold OA;rw[hrow,JH hi64 hi67,JH hi76 hi79];rfl
     have hP3:=hnum.pr hP2 Qc (show lp2[rows.length]? =some pr61 by rw[hrl];exact hi61) hgo;exact⟨_,Qc,c+1,lp3,_,F3,(row++[((k3:Nat):Int)]),ks99,A99,rfl,(K.sub rfl),(B.step M).less (.cons _ (.refl _)),hP3,(by rw[List.length_append,hrow];rfl),Qc,(by have:=hnl;first|omega|(simp_all;done)|(simp_all;omega)),(by rw[hnum.take hi2,htk]),(by rw[JW];exact hA99)⟩
    refine QK ?_;show W _ _ _ _ _ _ _;refine Qb 1 K M fun _ K=>?_;refine QA (l:=[(0,0),(1,0),(2,0),(3,0),(4,0),(5,0),(6,0),(7,0),(8,0)]) (by kernel_rfl) ?_;refine Jo 4 K M fun _ K=>?_;obtain⟨pr104,hi104⟩:=Uy lp2 i Qc;have hpb104:=hall2 pr104 (List.mem_of_getElem? hi104);obtain⟨x104,m104,f104,q104,_,la104,lo104,lp104⟩:=(UZ.rd ((B.step M).at_ (k:=1) rfl)).load (i:=i) (cs:=_) (El hi104);refine q1 rfl K (Qe (j:=i) Uo (congrArg some q104) rfl (by rw[YN];omega)) fun _ K=>?_;refine Jo 1 K M fun _ K=>?_;refine q1 rfl K (Qg rfl (lo104 _ 0 _ Qn rfl)) fun _ K=>?_;obtain⟨y107,hi107⟩:=Uy a.acc (pr104.1) Qc;refine dI rfl rfl ((hA _ fun c h1 h2=>(B.step M).J9 c h1 h2).1) (Ww hi107) K J4 J6 rfl rfl rfl fun _ _ _ _ K=>?_;refine QF ?_;show W _ _ _ _ _ _ _;refine Uq K rfl (fun h108=>?_) fun h108=>?_
    ·have hb108:=h108;refine Qb 1 K M fun _ K=>?_;refine QA (l:=[(0,0),(1,0),(2,0),(3,0),(4,0),(5,0),(6,0),(7,0),(8,0)]) (by kernel_rfl) ?_;refine Jo 4 K M fun _ K=>?_;obtain⟨x113,m113,f113,q113,_,la113,lo113,lp113⟩:=(UZ.rd ((B.step M).at_ (k:=1) rfl)).load (i:=i) (cs:=_) (El hi104);refine q1 rfl K (Qe (j:=i) Uo (congrArg some q113) rfl (by rw[YN];omega)) fun _ K=>?_;refine Jo 1 K M fun _ K=>?_;refine q1 rfl K (Qg rfl (lo113 _ 1 _ Qn rfl)) fun _ K=>?_;obtain⟨y116,hi116⟩:=Uy b.acc (pr104.2) Qc;obtain⟨x116,m116,f116,q116,_,la116,lo116,lp116⟩:=((hB _ fun c h1 h2=>(B.step M).J9 c h1 h2).1).load (i:=pr104.2) (cs:=_) (Ww hi116);refine q1 rfl K (Qe (j:=pr104.2) J4 (congrArg some q116) rfl (by rw[Up];omega)) fun _ K=>q1 rfl K (Qg rfl (lo116 _ 0 _ J6 rfl)) fun _ K=>QF ?_;show W _ _ _ _ _ _ _;refine Uq K rfl (fun h117=>?_) fun h117=>?_
     ·have hb117:=h117;refine Qb 7 K M fun _ K=>?_;refine p1 K (U8 (c:=(2+1)) UR Uz rfl (IntWalk.u64_in _ Qc)) fun _ K=>p1 K (ZX (a:=t) (n:=(2+1)) rfl rfl Qc) fun _ K=>p1 K (Z0 (a:=(t/2^(2+1))) rfl rfl Qc) fun _ K=>?_;refine au 2 K M ?_;intro c128 _ _ K _ M;refine QZ (k2:=0) (L:=[(c128,0,[.bool (decide (((((t/2^(2+1)) % 2):Nat):Int)=1))]),(c10,0,[iZ (a.tr:Nat),ka4,kr4]),(c8,0,[iZ 0,.nils,.nils]),(c5,0,[iZ (b.tr:Nat),kb,km]),(c4,0,[iZ (a.tr:Nat),ka,kn])]) (B:=(Ar++(Aw++[]))) K M hAa J3 rfl rfl rfl rfl (by rw[Up,List.length_map,List.length_take];omega) rfl fun ks129 A129 _ _ K hA129 M=>?_;refine Qb 1 K M fun _ K=>?_;refine Jk (k:=1) K M rfl rfl rfl UG (hA129.cell) rfl fun _ M=>?_;refine Qb 1 K M fun _ K=>?_;refine p1 K (Qg rfl (M.load (k:=1) rfl (Qd Q7 rfl))) fun _ K=>?_;refine Qb 1 K M fun _ K=>?_;refine Xo K M QQ Ut rfl ((JB rfl hAw.cell rfl).trans rfl) (Qa hAw.cell Qz) rfl rfl fun c134 _ _ K M=>?_;refine YL (k2:=0) (L:=((c134,0,[kw])::(c128,0,[.bool (decide (((((t/2^(2+1)) % 2):Nat):Int)=1))])::(c10,0,[iZ (a.tr:Nat),ks129,kr4])::(c8,0,[iZ 0,.nils,.nils])::(c5,0,[iZ (b.tr:Nat),kb,km])::(c4,0,[iZ (a.tr:Nat),ka,kn])::(A129++[]))) (B:=(Aw++[])) K (Mem.cast M Ux) hAr QQ rfl rfl rfl (by have:=Zl.ln ((B.step M).at_ (k:=0) rfl);omega) rfl fun ks135 A135 _ _ K hA135 _ M=>?_;simp only[XB]at M;refine Qb 1 K M fun _ K=>?_;refine Jk (k:=2) K M rfl rfl rfl Uv (hA135.cell) rfl fun _ M=>?_;refine Qb 3 K M fun _ K=>?_;replace B:=B.step M;obtain⟨Fr,B⟩:=Qk.ZD (L:=((c134,0,[kw])::(c128,0,[.bool (decide (((((t/2^(2+1)) % 2):Nat):Int)=1))])::(c10,0,[iZ (a.tr:Nat),ks129,ks135])::(c8,0,[iZ 0,.nils,.nils])::(c5,0,[iZ (b.tr:Nat),kb,km])::(c4,0,[iZ (a.tr:Nat),ka,kn])::(A129++(A135++[])))) (B:=[]) (B.cast Ux) hAw (hP2.F7 hl2);replace B:=B.cast (M':=((c134,0,[kw])::(c128,0,[.bool (decide (((((t/2^(2+1)) % 2):Nat):Int)=1))])::(c10,0,[iZ (a.tr:Nat),ks129,ks135])::(c8,0,[iZ 0,.nils,.nils])::(c5,0,[iZ (b.tr:Nat),kb,km])::(c4,0,[iZ (a.tr:Nat),ka,kn])::(A129++(A135++[])))) Ux;have M:=B.mem;have hi2:=Uu htk Qc
      have htq:lp2.take (i+1)=lp2.take i++[pr104]:=by rw[List.take_add_one,hi104];rfl
      have hti:lp2.take i=lp.take i:=by have:=congrArg (fun l=>l.take i) htk;simpa [List.take_take,Nat.min_eq_left]using this
      exact⟨_,Qc,i+1,lp2,kl2,Fl2,(rows++[row]),_,_,ks129,A129,ks135,A135,rfl,(K.sub rfl),(B.step M).less (.cons _ (.cons _ (.refl _))),(hP2.whole Qc),(by rw[List.length_append,hrl];rfl),hi2,hl2,(by rw[htq,hti,List.map_append,XZ,show bC ([pr104].map (I7 a b t))=[[AV.bool (I7 a b t pr104)]]from rfl,show AV.bool (I7 a b t pr104)=.bool (decide (((((t/2^(2+1)) % 2):Nat):Int)=1))from congrArg AV.bool (by unfold I7;rw[Aq hi107,Aq hi116];unfold CR;first|(rw[h108,h117];exact HC _)|(simp_all;done))];exact hA129),hA135⟩
     have hb117:=h117;refine Qb 4 K M fun _ K=>?_;refine p1 K (Nz UR Uz rfl) fun _ K=>p1 K (ZX (a:=t) (n:=2) rfl rfl Qc) fun _ K=>p1 K (Z0 (a:=(t/2^2)) rfl rfl Qc) fun _ K=>?_;refine au 2 K M ?_;intro c128 _ _ K _ M;refine QZ (k2:=0) (L:=[(c128,0,[.bool (decide (((((t/2^2) % 2):Nat):Int)=1))]),(c10,0,[iZ (a.tr:Nat),ka4,kr4]),(c8,0,[iZ 0,.nils,.nils]),(c5,0,[iZ (b.tr:Nat),kb,km]),(c4,0,[iZ (a.tr:Nat),ka,kn])]) (B:=(Ar++(Aw++[]))) K M hAa J3 rfl rfl rfl rfl (by rw[Up,List.length_map,List.length_take];omega) rfl fun ks129 A129 _ _ K hA129 M=>?_;refine Qb 1 K M fun _ K=>?_;refine Jk (k:=1) K M rfl rfl rfl UG (hA129.cell) rfl fun _ M=>?_;refine Qb 1 K M fun _ K=>?_;refine p1 K (Qg rfl (M.load (k:=1) rfl (Qd Q7 rfl))) fun _ K=>?_;refine Qb 1 K M fun _ K=>?_;refine Xo K M QQ Ut rfl ((JB rfl hAw.cell rfl).trans rfl) (Qa hAw.cell Qz) rfl rfl fun c134 _ _ K M=>?_;refine YL (k2:=0) (L:=((c134,0,[kw])::(c128,0,[.bool (decide (((((t/2^2) % 2):Nat):Int)=1))])::(c10,0,[iZ (a.tr:Nat),ks129,kr4])::(c8,0,[iZ 0,.nils,.nils])::(c5,0,[iZ (b.tr:Nat),kb,km])::(c4,0,[iZ (a.tr:Nat),ka,kn])::(A129++[]))) (B:=(Aw++[])) K (Mem.cast M Ux) hAr QQ rfl rfl rfl (by have:=Zl.ln ((B.step M).at_ (k:=0) rfl);omega) rfl fun ks135 A135 _ _ K hA135 _ M=>?_;simp only[XB]at M;refine Qb 1 K M fun _ K=>?_;refine Jk (k:=2) K M rfl rfl rfl Uv (hA135.cell) rfl fun _ M=>?_;refine Qb 3 K M fun _ K=>?_;replace B:=B.step M;obtain⟨Fr,B⟩:=Qk.ZD (L:=((c134,0,[kw])::(c128,0,[.bool (decide (((((t/2^2) % 2):Nat):Int)=1))])::(c10,0,[iZ (a.tr:Nat),ks129,ks135])::(c8,0,[iZ 0,.nils,.nils])::(c5,0,[iZ (b.tr:Nat),kb,km])::(c4,0,[iZ (a.tr:Nat),ka,kn])::(A129++(A135++[])))) (B:=[]) (B.cast Ux) hAw (hP2.F7 hl2);replace B:=B.cast (M':=((c134,0,[kw])::(c128,0,[.bool (decide (((((t/2^2) % 2):Nat):Int)=1))])::(c10,0,[iZ (a.tr:Nat),ks129,ks135])::(c8,0,[iZ 0,.nils,.nils])::(c5,0,[iZ (b.tr:Nat),kb,km])::(c4,0,[iZ (a.tr:Nat),ka,kn])::(A129++(A135++[])))) Ux;have M:=B.mem;have hi2:=Uu htk Qc
     have htq:lp2.take (i+1)=lp2.take i++[pr104]:=by rw[List.take_add_one,hi104];rfl
     have hti:lp2.take i=lp.take i:=by have:=congrArg (fun l=>l.take i) htk;simpa [List.take_take,Nat.min_eq_left]using this
     exact⟨_,Qc,i+1,lp2,kl2,Fl2,(rows++[row]),_,_,ks129,A129,ks135,A135,rfl,(K.sub rfl),(B.step M).less (.cons _ (.cons _ (.refl _))),(hP2.whole Qc),(by rw[List.length_append,hrl];rfl),hi2,hl2,(by rw[htq,hti,List.map_append,XZ,show bC ([pr104].map (I7 a b t))=[[AV.bool (I7 a b t pr104)]]from rfl,show AV.bool (I7 a b t pr104)=.bool (decide (((((t/2^2) % 2):Nat):Int)=1))from congrArg AV.bool (by unfold I7;rw[Aq hi107,Aq hi116];unfold CR;first|(rw[h108,h117];exact HC _)|(simp_all;done))];exact hA129),hA135⟩
    have hb108:=h108;refine Qb 0 K M fun _ K=>?_;refine QA (l:=[(0,0),(1,0),(2,0),(3,0),(4,0),(5,0),(6,0),(7,0),(8,0)]) (by kernel_rfl) ?_;refine Jo 4 K M fun _ K=>?_;obtain⟨x113,m113,f113,q113,_,la113,lo113,lp113⟩:=(UZ.rd ((B.step M).at_ (k:=1) rfl)).load (i:=i) (cs:=_) (El hi104);refine q1 rfl K (Qe (j:=i) Uo (congrArg some q113) rfl (by rw[YN];omega)) fun _ K=>?_;refine Jo 1 K M fun _ K=>?_;refine q1 rfl K (Qg rfl (lo113 _ 1 _ Qn rfl)) fun _ K=>?_;obtain⟨y116,hi116⟩:=Uy b.acc (pr104.2) Qc;obtain⟨x116,m116,f116,q116,_,la116,lo116,lp116⟩:=((hB _ fun c h1 h2=>(B.step M).J9 c h1 h2).1).load (i:=pr104.2) (cs:=_) (Ww hi116);refine q1 rfl K (Qe (j:=pr104.2) J4 (congrArg some q116) rfl (by rw[Up];omega)) fun _ K=>q1 rfl K (Qg rfl (lo116 _ 0 _ J6 rfl)) fun _ K=>QF ?_;show W _ _ _ _ _ _ _;refine Uq K rfl (fun h117=>?_) fun h117=>?_
    ·have hb117:=h117;refine Qb 7 K M fun _ K=>?_;refine p1 K (U8 (c:=(0+1)) UR Uz rfl (IntWalk.u64_in _ Qc)) fun _ K=>p1 K (ZX (a:=t) (n:=(0+1)) rfl rfl Qc) fun _ K=>p1 K (Z0 (a:=(t/2^(0+1))) rfl rfl Qc) fun _ K=>?_;refine au 2 K M ?_;intro c128 _ _ K _ M;refine QZ (k2:=0) (L:=[(c128,0,[.bool (decide (((((t/2^(0+1)) % 2):Nat):Int)=1))]),(c10,0,[iZ (a.tr:Nat),ka4,kr4]),(c8,0,[iZ 0,.nils,.nils]),(c5,0,[iZ (b.tr:Nat),kb,km]),(c4,0,[iZ (a.tr:Nat),ka,kn])]) (B:=(Ar++(Aw++[]))) K M hAa J3 rfl rfl rfl rfl (by rw[Up,List.length_map,List.length_take];omega) rfl fun ks129 A129 _ _ K hA129 M=>?_;refine Qb 1 K M fun _ K=>?_;refine Jk (k:=1) K M rfl rfl rfl UG (hA129.cell) rfl fun _ M=>?_;refine Qb 1 K M fun _ K=>?_;refine p1 K (Qg rfl (M.load (k:=1) rfl (Qd Q7 rfl))) fun _ K=>?_;refine Qb 1 K M fun _ K=>?_;refine Xo K M QQ Ut rfl ((JB rfl hAw.cell rfl).trans rfl) (Qa hAw.cell Qz) rfl rfl fun c134 _ _ K M=>?_;refine YL (k2:=0) (L:=((c134,0,[kw])::(c128,0,[.bool (decide (((((t/2^(0+1)) % 2):Nat):Int)=1))])::(c10,0,[iZ (a.tr:Nat),ks129,kr4])::(c8,0,[iZ 0,.nils,.nils])::(c5,0,[iZ (b.tr:Nat),kb,km])::(c4,0,[iZ (a.tr:Nat),ka,kn])::(A129++[]))) (B:=(Aw++[])) K (Mem.cast M Ux) hAr QQ rfl rfl rfl (by have:=Zl.ln ((B.step M).at_ (k:=0) rfl);omega) rfl fun ks135 A135 _ _ K hA135 _ M=>?_;simp only[XB]at M;refine Qb 1 K M fun _ K=>?_;refine Jk (k:=2) K M rfl rfl rfl Uv (hA135.cell) rfl fun _ M=>?_;refine Qb 3 K M fun _ K=>?_;replace B:=B.step M;obtain⟨Fr,B⟩:=Qk.ZD (L:=((c134,0,[kw])::(c128,0,[.bool (decide (((((t/2^(0+1)) % 2):Nat):Int)=1))])::(c10,0,[iZ (a.tr:Nat),ks129,ks135])::(c8,0,[iZ 0,.nils,.nils])::(c5,0,[iZ (b.tr:Nat),kb,km])::(c4,0,[iZ (a.tr:Nat),ka,kn])::(A129++(A135++[])))) (B:=[]) (B.cast Ux) hAw (hP2.F7 hl2);replace B:=B.cast (M':=((c134,0,[kw])::(c128,0,[.bool (decide (((((t/2^(0+1)) % 2):Nat):Int)=1))])::(c10,0,[iZ (a.tr:Nat),ks129,ks135])::(c8,0,[iZ 0,.nils,.nils])::(c5,0,[iZ (b.tr:Nat),kb,km])::(c4,0,[iZ (a.tr:Nat),ka,kn])::(A129++(A135++[])))) Ux;have M:=B.mem;have hi2:=Uu htk Qc
     have htq:lp2.take (i+1)=lp2.take i++[pr104]:=by rw[List.take_add_one,hi104];rfl
     have hti:lp2.take i=lp.take i:=by have:=congrArg (fun l=>l.take i) htk;simpa [List.take_take,Nat.min_eq_left]using this
     exact⟨_,Qc,i+1,lp2,kl2,Fl2,(rows++[row]),_,_,ks129,A129,ks135,A135,rfl,(K.sub rfl),(B.step M).less (.cons _ (.cons _ (.refl _))),(hP2.whole Qc),(by rw[List.length_append,hrl];rfl),hi2,hl2,(by rw[htq,hti,List.map_append,XZ,show bC ([pr104].map (I7 a b t))=[[AV.bool (I7 a b t pr104)]]from rfl,show AV.bool (I7 a b t pr104)=.bool (decide (((((t/2^(0+1)) % 2):Nat):Int)=1))from congrArg AV.bool (by unfold I7;rw[Aq hi107,Aq hi116];unfold CR;first|(rw[h108,h117];exact HC _)|(simp_all;done))];exact hA129),hA135⟩
    have hb117:=h117;refine Qb 4 K M fun _ K=>?_;refine p1 K (Nz UR Uz rfl) fun _ K=>p1 K (ZX (a:=t) (n:=0) rfl rfl Qc) fun _ K=>p1 K (Z0 (a:=(t/2^0)) rfl rfl Qc) fun _ K=>?_;refine au 2 K M ?_;intro c128 _ _ K _ M;refine QZ (k2:=0) (L:=[(c128,0,[.bool (decide (((((t/2^0) % 2):Nat):Int)=1))]),(c10,0,[iZ (a.tr:Nat),ka4,kr4]),(c8,0,[iZ 0,.nils,.nils]),(c5,0,[iZ (b.tr:Nat),kb,km]),(c4,0,[iZ (a.tr:Nat),ka,kn])]) (B:=(Ar++(Aw++[]))) K M hAa J3 rfl rfl rfl rfl (by rw[Up,List.length_map,List.length_take];omega) rfl fun ks129 A129 _ _ K hA129 M=>?_;refine Qb 1 K M fun _ K=>?_;refine Jk (k:=1) K M rfl rfl rfl UG (hA129.cell) rfl fun _ M=>?_;refine Qb 1 K M fun _ K=>?_;refine p1 K (Qg rfl (M.load (k:=1) rfl (Qd Q7 rfl))) fun _ K=>?_;refine Qb 1 K M fun _ K=>?_;refine Xo K M QQ Ut rfl ((JB rfl hAw.cell rfl).trans rfl) (Qa hAw.cell Qz) rfl rfl fun c134 _ _ K M=>?_;refine YL (k2:=0) (L:=((c134,0,[kw])::(c128,0,[.bool (decide (((((t/2^0) % 2):Nat):Int)=1))])::(c10,0,[iZ (a.tr:Nat),ks129,kr4])::(c8,0,[iZ 0,.nils,.nils])::(c5,0,[iZ (b.tr:Nat),kb,km])::(c4,0,[iZ (a.tr:Nat),ka,kn])::(A129++[]))) (B:=(Aw++[])) K (Mem.cast M Ux) hAr QQ rfl rfl rfl (by have:=Zl.ln ((B.step M).at_ (k:=0) rfl);omega) rfl fun ks135 A135 _ _ K hA135 _ M=>?_;simp only[XB]at M;refine Qb 1 K M fun _ K=>?_;refine Jk (k:=2) K M rfl rfl rfl Uv (hA135.cell) rfl fun _ M=>?_;refine Qb 3 K M fun _ K=>?_;replace B:=B.step M;obtain⟨Fr,B⟩:=Qk.ZD (L:=((c134,0,[kw])::(c128,0,[.bool (decide (((((t/2^0) % 2):Nat):Int)=1))])::(c10,0,[iZ (a.tr:Nat),ks129,ks135])::(c8,0,[iZ 0,.nils,.nils])::(c5,0,[iZ (b.tr:Nat),kb,km])::(c4,0,[iZ (a.tr:Nat),ka,kn])::(A129++(A135++[])))) (B:=[]) (B.cast Ux) hAw (hP2.F7 hl2);replace B:=B.cast (M':=((c134,0,[kw])::(c128,0,[.bool (decide (((((t/2^0) % 2):Nat):Int)=1))])::(c10,0,[iZ (a.tr:Nat),ks129,ks135])::(c8,0,[iZ 0,.nils,.nils])::(c5,0,[iZ (b.tr:Nat),kb,km])::(c4,0,[iZ (a.tr:Nat),ka,kn])::(A129++(A135++[])))) Ux;have M:=B.mem;have hi2:=Uu htk Qc
    have htq:lp2.take (i+1)=lp2.take i++[pr104]:=by rw[List.take_add_one,hi104];rfl
    have hti:lp2.take i=lp.take i:=by have:=congrArg (fun l=>l.take i) htk;simpa [List.take_take,Nat.min_eq_left]using this
    exact⟨_,Qc,i+1,lp2,kl2,Fl2,(rows++[row]),_,_,ks129,A129,ks135,A135,rfl,(K.sub rfl),(B.step M).less (.cons _ (.cons _ (.refl _))),(hP2.whole Qc),(by rw[List.length_append,hrl];rfl),hi2,hl2,(by rw[htq,hti,List.map_append,XZ,show bC ([pr104].map (I7 a b t))=[[AV.bool (I7 a b t pr104)]]from rfl,show AV.bool (I7 a b t pr104)=.bool (decide (((((t/2^0) % 2):Nat):Int)=1))from congrArg AV.bool (by unfold I7;rw[Aq hi107,Aq hi116];unfold CR;first|(rw[h108,h117];exact HC _)|(simp_all;done))];exact hA129),hA135⟩
   refine QK ?_;show W _ _ _ _ _ _ _;refine Qb 1 K M fun _ K=>?_;refine QU (k:=1) K M rfl rfl rfl Q9 rfl (Qa rfl (Qa hAa.cell (Qa hAr.cell Qz))) rfl fun _ M=>?_;refine Qb 1 K M fun _ K=>?_;refine Jx ⟨.inr rfl,_,(Ud (JE K rfl (M.load (k:=1) rfl (QN Jj rfl))) (Q6 K rfl)),?_⟩;have hlt:lp.take i=lp:=List.take_of_length_le Qc;rw[hlt]at hAa;have hMd:=hP.made (p:=I7 a b t) (m:=⟨a.tr,lp.map (I7 a b t),rows⟩) (by show rows.length=_;omega) rfl htr hlp;replace B:=B.step M;have hmt:Qx _ mp 0 [iZ (l-lp.length:Nat),.bool false]:=B.at_ (k:=2) rfl;obtain⟨F',B'⟩:=Qk.B6 (L:=((c10,0,[iZ (a.tr:Nat),ka4,kr4])::(c8,0,[iZ (a.tr:Nat),ka4,kr4])::(c5,0,[iZ (b.tr:Nat),kb,km])::(c4,0,[iZ (a.tr:Nat),ka,kn])::Aa)) (B:=[]) (B.cast Ux) hAr;exact⟨.inl ⟨_,lp,_,rfl,⟨hMd,rfl⟩,Qk.CP (a:=⟨a.tr,lp.map (I7 a b t),rows⟩) (om:=Yr mp (l-lp.length) false) (M:=[(c10,0,[iZ (a.tr:Nat),ka4,kr4]),(c8,0,[iZ (a.tr:Nat),ka4,kr4]),(c5,0,[iZ (b.tr:Nat),kb,km]),(c4,0,[iZ (a.tr:Nat),ka,kn])]) (A:=Aa) ((B'.NJ (.cons_cons _ (.cons _ (.refl _)))).cast Q4) (fun c hc=>hc) hAa,hmt⟩,B.JM⟩
  exfalso;omega
 exfalso;omega
end
section

theorem Qk.J2{st0 st:St}{X0:Fp}{M:QM}{Os:List Ob}{o p:Ob}(B:Qk st0 X0 st M Os){j k:Nat}(hj:Os[j]? =some o)(hk:Os[k]? =some p)(hne:j≠k): ∀c,o.F c→ ¬p.F c:=fun c h1 h2=>by
 have hjl:=(List.getElem?_eq_some_iff.1 hj).1;have hkl:=(List.getElem?_eq_some_iff.1 hk).1;have hpw:=List.pairwise_iff_getElem.1 B.dj;have ej:Os[j]=o:=(List.getElem?_eq_some_iff.1 hj).2;have ek:Os[k]=p:=(List.getElem?_eq_some_iff.1 hk).2;rcases Nat.lt_or_ge j k with hlt|hge
 ·exact hpw j k hjl hkl hlt c (by rw[ej];exact h1) (by rw[ek];exact h2)
 ·exact hpw k j hkl hjl Qc c (by rw[ek];exact h2) (by rw[ej];exact h1)
end
section
variable {acc:List Bool}

theorem PJ{q:List Int}{j:Nat}{z:Int}(h:q[j]? =some z):(q.take (j+1)).any (fun z=>I8 acc z.toNat)=((q.take j).any (fun z=>I8 acc z.toNat)||I8 acc z.toNat):=by
 rw[List.take_add_one,h,List.any_append];simp
theorem PK{q:List Int}{j:Nat}(h:(q.take j).any (fun z=>I8 acc z.toNat)=true):(q.take (j+1)).any (fun z=>I8 acc z.toNat)=true:=by
 rw[List.take_add_one,List.any_append,h];rfl
theorem yU{i:Nat}{y:Bool}(h:acc[i]? =some y):I8 acc i=y:=Ym h
def zB(st st':St)(a:Au)(k:Nat)(acc:List Bool)(v:AV):Prop:=
 (∃x L m,v=.tup [x,.int .i64 0]∧m.tr=a.tr-1∧UA (JY a k) [0] (anyS acc) L m∧AP st st' m x)∨v=.tup [.agg [.int .i64 0,.nils,.nils],.int .i64 8]

theorem BI{st:St}(hf:Qi st){a:Au}(wf:Zp a){ka kn:AV}{ls:List (List AV)}{mp l:Nat}(hA:KW st mp a ka kn ls){k:Nat}(hk:k<a.tr)(hm:Qx st.h.get mp 0 [iN l,.bool false])(hl1:401≤l)(hl:l≤9223372036854775807): ∃v st',Jf 101 [.agg [iZ (a.tr:Nat),ka,kn],iN k,.ptr mp 0 0] st v st'∧(∃YE,EO a k YE∧zB st st' a k YE v)∧UQ (fun c=>c=mp) st st':=by
 have hac:=(hA _ fun c _ _=>rfl).1.cell;have hnc:=(hA _ fun c _ _=>rfl).2.r.cell;have htr:=wf.tr;have hmo:=wf.most;have hp6:=JG (T:=a.tr-1) Qc;have hp0:0<2^(a.tr-1):=Nat.two_pow_pos _;have hena:a.n=a.acc.length:=rfl;have B:=Qk.UK (o:=Yr mp l false) hf hm (fun c hc=>(show c=mp from hc)▸hm.lt hf);refine J7 Tryz.func101 Tryz.ntmps101 fun T K=>?_;have M:=B.mem;refine au 5 K M ?_;intro c3 c6 _ _ K _ M;refine Ug K rfl (fun _ e20 K=>?_) fun _ e20 K=>?_
 ·refine Qb 5 K M fun _ K=>?_;refine Jt K rfl (fun h25=>?_) fun h25=>?_
  ·exfalso;omega
  refine Qb 2 K M fun _ K=>?_;obtain⟨v29,st29,ev29,ka2,YE,rfl,hcl,nrc,q29⟩:=Mr M.fresh wf (hA _ fun c h1 h2=>(B.step M).J9 c h1 h2).1 (hA _ fun c h1 h2=>(B.step M).J9 c h1 h2).2 hk;refine p1 K (Qf rfl ev29) fun _ K=>?_;obtain⟨Ac,hAc,M⟩:=M.Yx q29 nrc;replace hAc:=hAc.z0;have hcln:=hcl.len;simp only[XB]at M;refine au 1 K M ?_;intro c8 _ _ K _ M;refine QU (k:=0) K M rfl rfl rfl Q9 rfl (Qa rfl (Qa hAc.cell (Qa hnc Qz))) rfl fun _ M=>?_;refine Qb 2 K M fun _ K=>?_;refine p1 K (Nw rfl rfl Qc Qc) fun _ K=>?_;refine au 4 K M ?_;intro c9 c34 _ _ K _ M;refine Xo K M QQ Ut rfl rfl rfl rfl rfl fun c35 _ _ K M=>?_;refine Qb 1 K M fun _ K=>?_;replace B:=B.step M;obtain⟨Fl0,B⟩:=Qk.VK (z:=1) (ks:=.sl c35 0 0 1 1) (ls:=LN [.sl c34 0 0 1 1]) (A:=[(c35,0,[.sl c34 0 0 1 1])]) (M:=((c34,0,[iZ 0])::(c9,0,[iZ (a.tr-1:Nat),.nils,.nils])::(c8,0,[iZ (a.tr:Nat),ka2,kn])::(c6,0,[iZ 0,.nils,.nils])::(c3,0,[iZ (a.tr:Nat),ka,kn])::(Ac++[]))) B (Acc.own (n0:=0) (z:=1) (c:=c35) (m:=0) (ls:=LN [.sl c34 0 0 1 1]) (Nat.zero_le _) (by simp[LN]) (by simp[LN]));replace B:=B.V9;obtain⟨Fv0,B⟩:=Qk.ZD (L:=[]) (A:=[(c34,0,[iZ 0])]) (B:=((c9,0,[iZ (a.tr-1:Nat),.nils,.nils])::(c8,0,[iZ (a.tr:Nat),ka2,kn])::(c6,0,[iZ 0,.nils,.nils])::(c3,0,[iZ (a.tr:Nat),ka,kn])::(Ac++[]))) (row:=[0]) (kr:=.sl c34 0 0 1 1) B (Acc.own (n0:=0) (z:=1) (c:=c34) (m:=0) (ls:=zC [0]) (Nat.zero_le _) (by simp[zC]) (by simp[zC])) (fun z hz=>by rw[List.mem_singleton.1 hz];decide);replace B:Qk st (Yr mp l false).F _ (((c9,0,[iZ (a.tr-1:Nat),.nils,.nils])::(c8,0,[iZ (a.tr:Nat),ka2,kn])::(c6,0,[iZ 0,.nils,.nils])::(c3,0,[iZ (a.tr:Nat),ka,kn])::(Ac++[]))) [EX Fv0 [.sl c34 0 0 1 1] [[0]],Wz Fl0 1 (.sl c35 0 0 1 1) (LN [.sl c34 0 0 1 1]),Yr mp l false]:=B;have M:=B.mem;refine Qb 1 K M fun _ K=>?_;replace B:=B.step M;obtain⟨v37,st37,ev37,rfl,hms37,Qs37⟩:=VX B.fresh (show Qx _ mp 0 [iN l,.bool false]from B.at_ (k:=2) rfl) Qc Qc 1;refine p1 K (Qf rfl ev37) fun _ K=>?_;replace B:=B.call (k:=2) (o':=Yr mp (l-1) false) rfl Qs37 hms37 (UC fun c hc=>Nat.lt_of_lt_of_le (B.Y3 (k:=2) rfl c hc) Qs37.le);have M:=B.mem;refine Qb 2 K M fun _ K=>?_;replace B:=(B.step M).V9;have M:=B.mem;refine Qb 1 K M fun _ K=>?_;refine QX (fun mm1 T st9=> ∃(i:Nat) (L:List (List Int)) (vs:List AV) (Fv:Fp) (kl:AV) (Fl:Fp) (rows:List (List Int)) (vsr:List AV) (Fr:Fp) (ka4:AV) (Aa:QM) (kr4:AV) (Ar:QM),mm1=400-i∧QS [(1,iN k),(2,.ptr mp 0 0),(6,.ptr c6 0 0),(8,.ptr c8 0 0),(9,.ptr c9 0 0),(10,kl),(11,iN i)] T∧Qk st (Yr mp l false).F st9 ((c9,0,[iZ (a.tr-1:Nat),ka4,kr4])::(c8,0,[iZ (a.tr:Nat),ka2,kn])::(c6,0,[iZ 0,.nils,.nils])::(c3,0,[iZ (a.tr:Nat),ka,kn])::(Ac++(Aa++(Ar++[])))) [EX Fr vsr rows,EX Fv vs L,Wz Fl 1 kl (LN vs),Yr mp (l-L.length) false]∧V1 (JY a k) [0] (2^(a.tr-1)) L rows []∧rows.length=i∧i≤L.length∧L.length≤400∧Acc 0 1 Aa ka4 (bC ((L.take i).map (anyS YE)))∧YS Ar kr4 vsr) (fun mm1 T st9 hI=>?_) _ _ _ ⟨0,[[0]],[.sl c34 0 0 1 1],Fv0,_,Fl0,[],[],_,.nils,[],.nils,[],rfl,(K.sub rfl),(B.step M).less (.refl _),(V1.start _ _ _),rfl,Q8,Q8,.none,.none⟩;obtain⟨i,L,vs,Fv,kl,Fl,rows,vsr,Fr,ka4,Aa,kr4,Ar,rfl,K,B,hP,hrl,hiL,hL,hAa,hAr⟩:=hI;have M:=B.mem;have hall: ∀s∈L,F9 a.n s:=fun s hs=>hP.all (Q:=F9 a.n) (F9.zero wf.pos) (fun s c hs hc=>hs.step wf hk hc) hp0 hs;refine Qb 2 K M fun _ K=>?_;refine p1 K (Q5 JS rfl rfl ((UZ.len ((B.step M).at_ (k:=2) rfl)).trans (congrArg some ((AS _).trans (Zl.ln ((B.step M).at_ (k:=1) rfl)))))) fun _ K=>?_;refine Qb 1 K M fun _ K=>?_;refine Jt K rfl (fun h43=>?_) fun h43=>?_
  ·refine Qb 0 K M fun _ K=>?_;obtain⟨q,hqi⟩: ∃q,L[i]? =some q:=⟨_,List.getElem?_eq_getElem Qc⟩;have hqS:=hall q (List.mem_of_getElem? hqi);have hqm:=hqS.len;refine Qb 2 K M fun _ K=>?_;refine QX (fun mm2 T st9=> ∃(c:Nat) (L2:List (List Int)) (vs2:List AV) (Fv2:Fp) (kl2:AV) (Fl2:Fp) (row:List Int) (kw:AV) (Aw:QM),mm2=2^(a.tr-1)-c∧QS [(1,iN k),(2,.ptr mp 0 0),(6,.ptr c6 0 0),(8,.ptr c8 0 0),(9,.ptr c9 0 0),(10,kl2),(11,iN i),(12,kw),(13,iN c),(43,.bool (decide (((i:Nat):Int)<((L.length:Nat):Int))))] T∧Qk st (Yr mp l false).F st9 ((c9,0,[iZ (a.tr-1:Nat),ka4,kr4])::(c8,0,[iZ (a.tr:Nat),ka2,kn])::(c6,0,[iZ 0,.nils,.nils])::(c3,0,[iZ (a.tr:Nat),ka,kn])::(Ac++(Aa++(Ar++(Aw++[]))))) [EX Fr vsr rows,EX Fv2 vs2 L2,Wz Fl2 1 kl2 (LN vs2),Yr mp (l-L2.length) false]∧V1 (JY a k) [0] (2^(a.tr-1)) L2 rows row∧row.length=c∧c≤2^(a.tr-1)∧L2.length≤400∧L2.take (i+1)=L.take (i+1)∧Acc 0 1 Aw kw (zC row)) (fun mm2 T st9 hI=>?_) _ _ _ ⟨0,L,vs,Fv,kl,Fl,[],.nils,[],rfl,(K.sub rfl),(B.step M).less (.refl _),hP,rfl,(Nat.zero_le _),hL,rfl,.none⟩;obtain⟨c,L2,vs2,Fv2,kl2,Fl2,row,kw,Aw,rfl,K,B,hP2,hrow,hcK,hL2,htk,hAw⟩:=hI;have M:=B.mem;have hi2:=Uu htk Qc;refine Qb 3 K M fun _ K=>?_;refine p1 K (U8 (c:=(((a.tr-1):Nat):Int)) UR Uz rfl (IntWalk.u64_in _ Qc)) fun _ K=>p1 K (US (n:=(a.tr-1)) rfl rfl Qc) fun _ K=>?_;refine Qb 1 K M fun _ K=>?_;refine Jt K rfl (fun h51=>?_) fun h51=>?_
   ·refine Qb 2 K M fun _ K=>?_;refine QA (l:=[(1,0),(2,0),(3,0),(4,0),(5,0),(6,0),(7,0),(8,0),(0,0),(9,0),(10,0),(11,0),(12,0),(13,0),(14,0),(15,0),(16,0)]) (by kernel_rfl) ?_;refine Jo 3 K M fun _ K=>?_;have hq59:=Vn htk hqi;obtain⟨w59,hv59,hr59,hz59,hf59⟩:=Zl.at_ ((B.step M).at_ (k:=1) rfl) _ _ hq59;refine dI rfl rfl (UZ.rd ((B.step M).at_ (k:=2) rfl)) (Lq hv59) K QY Ja rfl rfl rfl fun _ _ _ _ K=>?_;refine Jo 2 K M fun _ K=>?_;obtain⟨v63,st63,ev63,kx,rfl,nrx,q63⟩:=MD (c:=c) M.fresh wf hAc.cell (hA _ fun c h1 h2=>(B.step M).J9 c h1 h2).2 (Zl.rowAt ((B.step M).at_ (k:=1) rfl) hq59 hv59) hqS.2 (Nat.le_trans hqS.len wf.most) hk Qc;refine qA rfl K (Qf rfl ev63) fun _ K=>?_;obtain⟨Ax,hAx,M⟩:=M.Yx q63 nrx;replace hAx:=hAx.z0;simp only[XB]at M;refine q1 rfl K (Qy rfl) fun _ K=>?_;replace B:=B.step M;have hq2S:=hqS.step wf hk (c:=c) Qc;obtain⟨v64,st64,ev64,kl3,k3,was3,L3,vs3,F3,rfl,hO3,mf3,Q3,hnum⟩:=D7 B.fresh (B.at_ (k:=2) rfl) (B.Y3 (k:=2) rfl) (B.at_ (k:=1) rfl) (B.Y3 (k:=1) rfl) (B.J2 (j:=1) (k:=2) rfl rfl Q8) Qc (Mem.Ys (L:=((c9,0,[iZ (a.tr-1:Nat),ka4,kr4])::(c8,0,[iZ (a.tr:Nat),ka2,kn])::(c6,0,[iZ 0,.nils,.nils])::(c3,0,[iZ (a.tr:Nat),ka,kn])::(Ac++(Aa++(Ar++(Aw++[])))))) (B:=[]) (Mem.cast M Ux) hAx) (fun c m o n y e hc=>by obtain⟨m',l',hm'⟩:=hAx.vk c m o n y e;exact B.djM _ (List.mem_of_getElem? (show _[2]? =some _ from rfl)) c m' l' (by simp[hm']) hc);refine qA rfl K (Qf rfl ev64) fun _ K=>?_;replace B:=B.call (k:=2) (o':=Wz F3 1 kl3 (LN vs3)) rfl Q3 hO3 mf3;have hnl:=hnum.len;obtain⟨Fv3,B⟩:=Qk.eK (L0:=((c9,0,[iZ (a.tr-1:Nat),ka4,kr4])::(c8,0,[iZ (a.tr:Nat),ka2,kn])::(c6,0,[iZ 0,.nils,.nils])::(c3,0,[iZ (a.tr:Nat),ka,kn])::(Ac++(Aa++(Ar++(Aw++[])))))) (A:=Ax) (B0:=[]) ((B.cast (M':=((c9,0,[iZ (a.tr-1:Nat),ka4,kr4])::(c8,0,[iZ (a.tr:Nat),ka2,kn])::(c6,0,[iZ 0,.nils,.nils])::(c3,0,[iZ (a.tr:Nat),ka,kn])::(Ac++(Aa++(Ar++(Aw++[])))))++(Ax++[])) Ux).G5 (Os':=EX Fv2 vs2 L2::EX Fr vsr rows::[Wz F3 1 kl3 (LN vs3),Yr mp (l-L2.length) false]) (.swap ..)) hnum hAx (hq2S.F7 wf.most);replace B:=B.G5 (Os':=[EX Fr vsr rows,EX Fv3 vs3 L3,Wz F3 1 kl3 (LN vs3),Yr mp (l-L2.length) false]) (.swap ..);replace B:=B.cast (M':=((c9,0,[iZ (a.tr-1:Nat),ka4,kr4])::(c8,0,[iZ (a.tr:Nat),ka2,kn])::(c6,0,[iZ 0,.nils,.nils])::(c3,0,[iZ (a.tr:Nat),ka,kn])::(Ac++(Aa++(Ar++(Aw++[])))))) Ux;have M:=B.mem;refine Jo 7 K M fun _ K=>?_;refine QF ?_;show W _ _ _ _ _ _ _;refine Qb 2 K M fun _ K=>?_;refine oB K (Qy rfl) rfl fun b70 _ e70 K=>?_;cases b70
    ·replace e70:(was3)=true:=by simpa using e70
     refine au 10 K M ?_;intro c80 _ _ K _ M;refine QZ (k2:=0) (L:=((c80,0,[iN k3])::(c9,0,[iZ (a.tr-1:Nat),ka4,kr4])::(c8,0,[iZ (a.tr:Nat),ka2,kn])::(c6,0,[iZ 0,.nils,.nils])::(c3,0,[iZ (a.tr:Nat),ka,kn])::(Ac++(Aa++(Ar++[]))))) (B:=[]) K (Mem.cast M Ux) hAw QD rfl rfl rfl rfl (by rw[Qp];omega) rfl fun ks81 A81 _ _ K hA81 M=>?_;simp only[XB]at M;refine Qb 4 K M fun _ K=>?_;replace B:=B.step M;rw[show(l-L2.length)=l-L3.length by have:=hnl;first|omega|(simp_all;done)|(simp_all;omega)]at B;have M:=B.mem;have hP3:=Gp.pr hP2 Qc (show L2[rows.length]? =some q by rw[hrl];exact Vn htk hqi) (show JY a k q row.length=JY a k q c by rw[hrow]) hnum;exact⟨_,Qc,c+1,L3,vs3,Fv3,_,F3,(row++[((k3:Nat):Int)]),ks81,A81,rfl,(K.sub rfl),(B.step M).less (.cons _ (.refl _)),hP3,(by rw[List.length_append,hrow];rfl),Qc,(by have:=hnl;first|omega|(simp_all;done)|(simp_all;omega)),(by rw[hnum.take hi2,htk]),(by rw[JW];exact hA81)⟩
    replace e70:(was3)=false:=by simpa using e70
    refine Qb 2 K M fun _ K=>?_;refine pg K rfl rfl (Q5 JS rfl rfl ((UZ.len ((B.step M).at_ (k:=2) rfl)).trans (congrArg some ((AS _).trans (Zl.ln ((B.step M).at_ (k:=1) rfl)))))) fun _ K=>?_;replace B:=B.step M;obtain⟨v74,st74,ev74,rfl,hms74,Qs74⟩:=VX B.fresh (show Qx _ mp 0 [iZ (l-L2.length:Nat),.bool false]from B.at_ (k:=3) rfl) Qc Qc L3.length;refine pg K rfl rfl (Qf rfl ev74) fun _ K=>?_;replace B:=B.call (k:=3) (o':=Yr mp (l-L2.length-1) false) rfl Qs74 hms74 (UC fun c hc=>Nat.lt_of_lt_of_le (B.Y3 (k:=3) rfl c hc) Qs74.le);have M:=B.mem;refine Qb 2 K M fun _ K=>?_;refine Uq K rfl (fun h76=>?_) fun h76=>?_
    ·have hb76:=h76
     replace h76: ¬((L3.length:Int)≤400):=by first|exact of_decide_eq_false h76|exact yF h76|simpa using h76
     refine au 3 K M ?_;intro _ _ K _ M;refine Jx ⟨.inr rfl,_,(Ud (JE K rfl (M.load (k:=2) rfl (QN Jj rfl))) (Q6 K rfl)),?_⟩;exact⟨⟨YE,hcl,.inr rfl⟩,(B.step M).JM⟩
    have hb76:=h76
    replace h76:((L3.length:Int)≤400):=by first|exact of_decide_eq_true h76|exact yT h76|simpa using h76
    refine au 3 K M ?_;intro c80 _ _ K _ M;refine QZ (k2:=0) (L:=((c80,0,[iN k3])::(c9,0,[iZ (a.tr-1:Nat),ka4,kr4])::(c8,0,[iZ (a.tr:Nat),ka2,kn])::(c6,0,[iZ 0,.nils,.nils])::(c3,0,[iZ (a.tr:Nat),ka,kn])::(Ac++(Aa++(Ar++[]))))) (B:=[]) K (Mem.cast M Ux) hAw QD rfl rfl rfl rfl (by rw[Qp];omega) rfl fun ks81 A81 _ _ K hA81 M=>?_;simp only[XB]at M;refine Qb 4 K M fun _ K=>?_;replace B:=B.step M;rw[show(l-L2.length-1)=l-L3.length by have:=hnl;first|omega|(simp_all;done)|(simp_all;omega)]at B;have M:=B.mem;have hP3:=Gp.pr hP2 Qc (show L2[rows.length]? =some q by rw[hrl];exact Vn htk hqi) (show JY a k q row.length=JY a k q c by rw[hrow]) hnum;exact⟨_,Qc,c+1,L3,vs3,Fv3,_,F3,(row++[((k3:Nat):Int)]),ks81,A81,rfl,(K.sub rfl),(B.step M).less (.cons _ (.refl _)),hP3,(by rw[List.length_append,hrow];rfl),Qc,(by have:=hnl;first|omega|(simp_all;done)|(simp_all;omega)),(by rw[hnum.take hi2,htk]),(by rw[JW];exact hA81)⟩
   refine QK ?_;show W _ _ _ _ _ _ _;refine Qb 2 K M fun _ K=>?_;refine QX (fun mm3 T st9=> ∃(j:Nat) (ac:Bool),mm3=q.length-j∧QS [(1,iN k),(2,.ptr mp 0 0),(6,.ptr c6 0 0),(8,.ptr c8 0 0),(9,.ptr c9 0 0),(10,kl2),(11,iN i),(12,kw),(13,iN c),(16,.bool ac),(17,iN j),(43,.bool (decide (((i:Nat):Int)<((L.length:Nat):Int)))),(51,.bool (decide (((c:Nat):Int)<((2^(a.tr-1):Nat):Int))))] T∧Qk st (Yr mp l false).F st9 ((c9,0,[iZ (a.tr-1:Nat),ka4,kr4])::(c8,0,[iZ (a.tr:Nat),ka2,kn])::(c6,0,[iZ 0,.nils,.nils])::(c3,0,[iZ (a.tr:Nat),ka,kn])::(Ac++(Aa++(Ar++(Aw++[]))))) [EX Fr vsr rows,EX Fv2 vs2 L2,Wz Fl2 1 kl2 (LN vs2),Yr mp (l-L2.length) false]∧j≤q.length∧ac=(q.take j).any (fun z=>I8 YE z.toNat)) (fun mm3 T st9 hI=>?_) _ _ _ ⟨0,_,rfl,(K.sub rfl),(B.step M).less (.refl _),(Nat.zero_le _),(by rw[List.take_zero];rfl)⟩;obtain⟨j,ac,rfl,K,B,hjq,hac3⟩:=hI;have M:=B.mem;refine Qb 3 K M fun _ K=>?_;have hq85:=Vn htk hqi;obtain⟨w85,hv85,hr85,hz85,hf85⟩:=Zl.at_ ((B.step M).at_ (k:=1) rfl) _ _ hq85;refine oI (UZ.rd ((B.step M).at_ (k:=2) rfl)) (Lq hv85) K QY Ja rfl rfl rfl fun _ _ _ _ K=>?_;refine p1 K (Q5 Je rfl rfl (hr85.len.trans (congrArg some (Qp _)))) fun _ K=>?_;refine Qb 1 K M fun _ K=>?_;refine Jt K rfl (fun h88=>?_) fun h88=>?_
   ·refine Qb 0 K M fun _ K=>?_;refine QA (l:=[(0,0),(1,0),(2,0),(3,0),(4,0),(5,0),(6,0),(7,0),(8,0),(9,0),(10,0),(11,0),(12,0),(13,0),(14,0)]) (by kernel_rfl) ?_;refine q1 rfl K (Qy rfl) fun _ K=>?_;refine dB rfl K (Qy rfl) rfl rfl fun b92 _ e92 K=>?_;cases b92
    ·refine Jo 4 K M fun _ K=>?_;have hq97:=Vn htk hqi;obtain⟨w97,hv97,hr97,hz97,hf97⟩:=Zl.at_ ((B.step M).at_ (k:=1) rfl) _ _ hq97;obtain⟨x97,m97,f97,q97,_,la97,lo97,lp97⟩:=(UZ.rd ((B.step M).at_ (k:=2) rfl)).load (i:=i) (cs:=_) (Lq hv97);refine dg rfl K rfl rfl (Qe (j:=i) QY (congrArg some q97) rfl (by rw[AS];have:=Zl.ln ((B.step M).at_ (k:=1) rfl);omega)) rfl rfl fun _ K=>dg rfl K rfl rfl (Qg rfl (lo97 _ 0 _ Ja rfl)) rfl rfl fun _ K=>?_;refine Jo 1 K M fun _ K=>?_;obtain⟨y100,hi100⟩:=Uy q j Qc;have hb100:=hqS.2 y100 (List.mem_of_getElem? hi100);obtain⟨z100,rfl⟩: ∃m:Nat,y100=((m:Nat):Int):=⟨_,(Int.toNat_of_nonneg hb100.1).symm⟩;obtain⟨x100,m100,f100,q100,_,la100,lo100,lp100⟩:=(Zl.rowAt ((B.step M).at_ (k:=1) rfl) hq97 hv97).load (i:=j) (cs:=_) (Jm hi100);refine dg rfl K rfl rfl (Qe (j:=j) Qo (congrArg some q100) rfl (by rw[Qp];omega)) rfl rfl fun _ K=>dg rfl K rfl rfl (Qg rfl (lo100 _ 0 _ Qn rfl)) rfl rfl fun _ K=>?_;obtain⟨y102,hi102⟩:=Uy YE z100 Qc;obtain⟨x102,m102,f102,q102,_,la102,lo102,lp102⟩:=(Mem.Ys (L:=[(c9,0,[iZ (a.tr-1:Nat),ka4,kr4]),(c8,0,[iZ (a.tr:Nat),ka2,kn]),(c6,0,[iZ 0,.nils,.nils]),(c3,0,[iZ (a.tr:Nat),ka,kn])]) (B:=(Aa++(Ar++(Aw++[])))) M hAc).load (i:=z100) (cs:=_) (Ww hi102);refine dg rfl K rfl rfl (Qe (j:=z100) J4 (congrArg some q102) rfl (by rw[Up];omega)) rfl rfl fun _ K=>dg rfl K rfl rfl (Qg rfl (lo102 _ 0 _ J6 rfl)) rfl rfl fun _ K=>?_;refine Jo 2 K M fun _ K=>?_;refine QF ?_;show W _ _ _ _ _ _ _;refine Qb 3 K M fun _ K=>?_;exact⟨_,Qc,j+1,_,rfl,(K.sub rfl),(B.step M).less (.refl _),Qc,(by first|(rw[PJ hi100,Int.toNat_natCast,yU hi102,←hac3];simp_all;done)|exact(PK (hac3.symm.trans e92)).symm)⟩
    refine YA rfl K rfl rfl rfl rfl fun _ _ K=>YA rfl K rfl rfl rfl rfl fun _ _ K=>YA rfl K rfl rfl rfl rfl fun _ _ K=>YA rfl K rfl rfl rfl rfl fun _ _ K=>YA rfl K rfl rfl rfl rfl fun _ _ K=>YA rfl K rfl rfl rfl rfl fun _ _ K=>YA rfl K rfl rfl rfl rfl fun _ _ K=>YA rfl K rfl rfl rfl rfl fun _ _ K=>YA rfl K rfl rfl rfl rfl fun _ _ K=>?_;refine YA rfl K rfl rfl rfl rfl fun _ _ K=>YA rfl K rfl rfl rfl rfl fun _ _ K=>?_;refine Jo 2 K M fun _ K=>?_;refine QF ?_;show W _ _ _ _ _ _ _;refine Qb 3 K M fun _ K=>?_;exact⟨_,Qc,j+1,_,rfl,(K.sub rfl),(B.step M).less (.refl _),Qc,(by first|(rw[PJ hi100,Int.toNat_natCast,yU hi102,←hac3];simp_all;done)|exact(PK (hac3.symm.trans e92)).symm)⟩
   refine QK ?_;show W _ _ _ _ _ _ _;refine au 4 K M ?_;intro c108 _ _ K _ M;refine QZ (k2:=0) (L:=((c108,0,[.bool ac])::(c9,0,[iZ (a.tr-1:Nat),ka4,kr4])::(c8,0,[iZ (a.tr:Nat),ka2,kn])::(c6,0,[iZ 0,.nils,.nils])::(c3,0,[iZ (a.tr:Nat),ka,kn])::(Ac++[]))) (B:=(Ar++(Aw++[]))) K (Mem.cast M Ux) hAa J3 rfl rfl rfl rfl (by rw[Up,List.length_map,List.length_take];omega) rfl fun ks109 A109 _ _ K hA109 M=>?_;simp only[XB]at M;refine Qb 1 K M fun _ K=>?_;refine Jk (k:=1) K M rfl rfl rfl UG (hA109.cell) rfl fun _ M=>?_;refine Qb 1 K M fun _ K=>?_;refine p1 K (Qg rfl (M.load (k:=1) rfl (Qd Q7 rfl))) fun _ K=>?_;refine Qb 1 K M fun _ K=>?_;refine Xo K M QQ Ut rfl ((JB rfl hAw.cell rfl).trans rfl) (Qa hAw.cell Qz) rfl rfl fun c114 _ _ K M=>?_;refine YL (k2:=0) (L:=((c114,0,[kw])::(c108,0,[.bool ac])::(c9,0,[iZ (a.tr-1:Nat),ks109,kr4])::(c8,0,[iZ (a.tr:Nat),ka2,kn])::(c6,0,[iZ 0,.nils,.nils])::(c3,0,[iZ (a.tr:Nat),ka,kn])::(Ac++(A109++[])))) (B:=(Aw++[])) K (Mem.cast M Ux) hAr QQ rfl rfl rfl (by have:=(Zl.ln ((B.step M).at_ (k:=0) rfl));omega) rfl fun ks115 A115 _ _ K hA115 _ M=>?_;simp only[XB]at M;refine Qb 1 K M fun _ K=>?_;refine Jk (k:=2) K M rfl rfl rfl Uv (hA115.cell) rfl fun _ M=>?_;refine Qb 3 K M fun _ K=>?_;replace B:=B.step M;obtain⟨Fr,B⟩:=Qk.ZD (L:=((c114,0,[kw])::(c108,0,[.bool ac])::(c9,0,[iZ (a.tr-1:Nat),ks109,ks115])::(c8,0,[iZ (a.tr:Nat),ka2,kn])::(c6,0,[iZ 0,.nils,.nils])::(c3,0,[iZ (a.tr:Nat),ka,kn])::(Ac++(A109++(A115++[]))))) (B:=[]) (B.cast Ux) hAw (hP2.F7 hL2);replace B:=B.cast (M':=((c114,0,[kw])::(c108,0,[.bool ac])::(c9,0,[iZ (a.tr-1:Nat),ks109,ks115])::(c8,0,[iZ (a.tr:Nat),ka2,kn])::(c6,0,[iZ 0,.nils,.nils])::(c3,0,[iZ (a.tr:Nat),ka,kn])::(Ac++(A109++(A115++[]))))) Ux;have M:=B.mem;have hi2:=Uu htk Qc
   have htq:L2.take (i+1)=L2.take i++[q]:=by rw[List.take_add_one,Vn htk hqi];rfl
   have hti:L2.take i=L.take i:=by have:=congrArg (fun l=>l.take i) htk;simpa [List.take_take,Nat.min_eq_left]using this
   have hany:ac=anyS YE q:=by rw[hac3,List.take_of_length_le Qc];rfl
   exact⟨_,Qc,i+1,L2,vs2,Fv2,kl2,Fl2,(rows++[row]),_,_,ks109,A109,ks115,A115,rfl,(K.sub rfl),(B.step M).less (.cons _ (.cons _ (.refl _))),(hP2.whole Qc),(by rw[List.length_append,hrl];rfl),hi2,hL2,(by rw[htq,hti,List.map_append,XZ,show bC ([q].map (anyS YE))=[[AV.bool (anyS YE q)]]from rfl,←hany];exact hA109),hA115⟩
  refine QK ?_;show W _ _ _ _ _ _ _;refine Qb 1 K M fun _ K=>?_;refine QU (k:=2) K M rfl rfl rfl Q9 rfl (Qa rfl (Qa hAa.cell (Qa hAr.cell Qz))) rfl fun _ M=>?_;refine Qb 1 K M fun _ K=>?_;refine Jx ⟨.inr rfl,_,(Ud (JE K rfl (M.load (k:=2) rfl (QN Jj rfl))) (Q6 K rfl)),?_⟩;have hlt:L.take i=L:=List.take_of_length_le Qc;rw[hlt]at hAa;have hMd:=hP.made (p:=anyS YE) (m:=⟨a.tr-1,L.map (anyS YE),rows⟩) (by show rows.length=_;omega) rfl (by show a.tr-1≤6;omega) hL;replace B:=B.step M;obtain⟨F',B'⟩:=Qk.B6 (L:=((c9,0,[iZ (a.tr-1:Nat),ka4,kr4])::(c8,0,[iZ (a.tr:Nat),ka2,kn])::(c6,0,[iZ (a.tr-1:Nat),ka4,kr4])::(c3,0,[iZ (a.tr:Nat),ka,kn])::(Ac++Aa))) (B:=[]) (B.cast Ux) hAr;exact⟨⟨YE,hcl,.inl ⟨_,L,⟨a.tr-1,L.map (anyS YE),rows⟩,rfl,rfl,hMd,Qk.CP (a:=⟨a.tr-1,L.map (anyS YE),rows⟩) (om:=Yr mp (l-L.length) false) (Os:=[]) (M:=((c9,0,[iZ (a.tr-1:Nat),ka4,kr4])::(c8,0,[iZ (a.tr:Nat),ka2,kn])::(c6,0,[iZ (a.tr-1:Nat),ka4,kr4])::(c3,0,[iZ (a.tr:Nat),ka,kn])::Ac)) (A:=Aa) ((B'.NJ (.cons_cons _ (.cons _ (.cons _ (.refl _))))).cast Q4) (fun c hc=>hc) hAa⟩⟩,B.JM⟩
 refine au 9 K M ?_;intro _ _ K _ M;refine Jx ⟨.inr rfl,_,(Ud (JE K rfl (M.load (k:=0) rfl (QN Jj rfl))) (Q6 K rfl)),?_⟩
 exfalso;omega
end
section

def fD:AV→Bool
 |.sl _ _ _ _ _=>false
 |_=>true
theorem LY{ks:AV}{n:Nat}(h:YD ks=some n):Qr ks=true:=by
 cases ks<;>first|rfl|cases h
abbrev VN:=Nat→Nat→List AV→Prop
abbrev z8:=List (Nat×Nat×List AV)
def Yy(R:VN)(h:Hp):Prop:= ∀c m l,R c m l→Yt h c m l
def Np(R:VN)(A:z8):VN:=fun c m l=>R c m l∨(c,m,l)∈A
theorem Lx{R:VN}{A:z8}{c m:Nat}{l:List AV}(h:R c m l):Np R A c m l:=.inl h
theorem Mem.Yy{h0:Hp}{n0:Nat}{st:St}{M:z8}(h:Mem h0 n0 [] st M){R:VN}(hR:Proofs.YtiknomepbklibaaGreatDoor.Yy R h0):Proofs.YtiknomepbklibaaGreatDoor.Yy R st.h.get:=fun c m l hr=>h.JF Q4 (hR c m l hr)
end
section
variable {cs:List AV} {i:Nat}

inductive Cr where
 |mk (op:List Nat) (a b c n:Int) (kids:List Cr)
def Cr.op:Cr→List Nat
 |.mk o _ _ _ _ _=>o
def Cr.kids:Cr→List Cr
 |.mk _ _ _ _ _ l=>l
inductive YI(R:VN):Cr→List AV→Prop
 |leaf {o:List Nat} {a b c n:Int} {ks:AV} (hs:YD ks=some 0) (ha:fD ks=true):YI R (.mk o a b c n []) [.str o,.int .i64 a,.int .i64 b,.int .i64 c,.int .i64 n,ks]
 |node {o:List Nat} {a b c n:Int} {kids:List Cr} {x m off:Nat} {cells:List AV} (hr:R x m cells) (hn:(kids.length:Int)≤9223372036854775807) (hl:off+kids.length *6≤cells.length)
  (hk: ∀(i:Nat) (k:Cr),kids[i]? =some k→YI R k ((cells.drop (off+i *6)).take 6)):YI R (.mk o a b c n kids) [.str o,.int .i64 a,.int .i64 b,.int .i64 c,.int .i64 n,.sl x m off kids.length 6]
theorem YI.mono{R R':VN}(hl: ∀c m l,R c m l→R' c m l){t:Cr}(r:YI R t cs):YI R' t cs:=by
 induction r with
 |leaf hs ha=>exact .leaf hs ha
 |node hr hn hl' hk ih=>exact .node (hl _ _ _ hr) hn hl' ih
inductive YF(R:VN):List Cr→AV→List (List AV)→Prop
 |none {kk:AV} (hs:YD kk=some 0) (ha:fD kk=true):YF R [] kk []
 |row {kids:List Cr} {ls:List (List AV)} {c m off:Nat} {cells:List AV} (hr:R c m cells) (hn:(kids.length:Int)≤9223372036854775807) (hl:off+kids.length *6≤cells.length) (hls:ls.length=kids.length)
  (hcs: ∀(i:Nat) (cs:List AV),ls[i]? =some cs→cs=(cells.drop (off+i *6)).take 6) (hk: ∀(i:Nat) (k:Cr) (cs:List AV),kids[i]? =some k→ls[i]? =some cs→YI R k cs):YF R kids (.sl c m off kids.length 6) ls
section
variable {R:VN} {kids:List Cr} {kk:AV} {ls:List (List AV)}
theorem YF.ln(K:YF R kids kk ls):ls.length=kids.length:=by
 cases K with
 |none=>rfl
 |row _ _ _ h=>exact h
theorem YF.len(K:YF R kids kk ls):YD kk=some kids.length:=by
 cases K with
 |none hs ha=>exact hs
 |row=>rfl
theorem YF.cell(K:YF R kids kk ls):Qr kk=true:=LY K.len
theorem YF.W3(K:YF R kids kk ls):(kids.length:Int)≤9223372036854775807:=by
 cases K with
 |none=>simp
 |row _ h=>exact h
theorem YF.get(K:YF R kids kk ls){k:Cr}(hi:kids[i]? =some k): ∃cs,ls[i]? =some cs∧YI R k cs:=by
 have hlt:i<ls.length:=by rw[K.ln];exact(List.getElem?_eq_some_iff.1 hi).1
 refine⟨_,List.getElem?_eq_getElem hlt,?_⟩
 cases K with
 |none=>simp at hi
 |row _ _ _ _ _ hk=>exact hk i k _ hi (List.getElem?_eq_getElem hlt)
theorem YF.r(K:YF R kids kk ls){h:Hp}(hi:Yy R h):Jg h [] 6 ls kk:=by
 cases K with
 |none hs ha=>exact⟨hs,by simp,LY hs,fun i cs hi=>by simp at hi,fun c m off n z e=>by subst e;cases ha⟩
 |row hr hn hl hls hcs hk=>
  rename_i c m off cells;refine⟨by rw[hls];rfl,by rw[hls];exact hn,rfl,fun i cs he=>?_,fun c' m' off' n' z e=>?_⟩
  ·have hlt:=(List.getElem?_eq_some_iff.1 he).1;have:=hcs i cs he;refine⟨c,m,off,cells,by rw[hls],by simp,hi _ _ _ hr,?_,this.symm⟩;rw[this,List.length_take,List.length_drop];omega
  ·injection e with e1 e2 e3 e4 e5
   subst e1 e2 e3 e4 e5;exact⟨by simp,cells,hi _ _ _ hr,hl⟩
end
theorem YI.iw{R:VN}{k:Cr}(r:YI R k cs):cs.length=6:=by cases r<;>rfl
theorem YI.U0{R:VN}{o:List Nat}{a b c n:Int}{kids:List Cr}(r:YI R (.mk o a b c n kids) cs):
  ∃kk ls,cs=[.str o,.int .i64 a,.int .i64 b,.int .i64 c,.int .i64 n,kk]∧YF R kids kk ls:=by
 cases r with
 |leaf hs ha=>exact⟨_,[],rfl,.none hs ha⟩
 |node hr hn hl hk=>
  rename_i x m off cells
  have hlen:((List.range kids.length).map fun i=>(cells.drop (off+i *6)).take 6).length=kids.length:=by simp
  have hat: ∀(i:Nat) (cs:List AV),((List.range kids.length).map fun i=>(cells.drop (off+i *6)).take 6)[i]? =some cs→i<kids.length∧cs=(cells.drop (off+i *6)).take 6:=by
   intro i cs hi;rw[List.getElem?_map]at hi
   have hlt:i<kids.length:=by
    by_cases h:i<kids.length
    ·exact h
    ·rw[List.getElem?_eq_none (by simp;omega)]at hi;cases hi
   rw[List.getElem?_range hlt]at hi
   injection hi with hi
   exact⟨hlt,hi.symm⟩
  refine⟨_,(List.range kids.length).map fun i=>(cells.drop (off+i *6)).take 6,rfl,.row hr hn hl hlen (fun i cs hi=>(hat i cs hi).2) fun i k cs h1 h2=>?_⟩;rw[(hat i cs h2).2];exact hk i k h1
theorem YI.zH{R:VN}{k:Cr}(r:YI R k cs): ∃o a b c n l kk ls,k=.mk o a b c n l∧cs=[.str o,.int .i64 a,.int .i64 b,.int .i64 c,.int .i64 n,kk]∧YF R l kk ls:=by
 obtain⟨o,a,b,c,n,l⟩:=k;obtain⟨kk,ls,e,K⟩:=r.U0;exact⟨o,a,b,c,n,l,kk,ls,rfl,e,K⟩
theorem YI.shape{R:VN}{k:Cr}{o:List Nat}{a b c n:Int}{kk:AV}(r:YI R k [.str o,.int .i64 a,.int .i64 b,.int .i64 c,.int .i64 n,kk]): ∃l ls,k=.mk o a b c n l∧YF R l kk ls:=by
 obtain⟨o1,a1,b1,c1,n1,l,kk',ls,e1,e,K⟩:=r.zH
 injection e with x1 e;injection e with x2 e;injection e with x3 e;injection e with x4 e;injection e with x5 e;injection e with x6 e
 injection x1 with x1;injection x2 with _ x2;injection x3 with _ x3;injection x4 with _ x4;injection x5 with _ x5
 subst x1 x2 x3 x4 x5 x6;exact⟨l,ls,e1,K⟩
mutual
def Vg:Cr→Nat
 |.mk _ _ _ _ _ l=>Zf l+1
def Zf:List Cr→Nat
 |[]=>0
 |k::l=>Vg k+Zf l
end
theorem SN(k:Cr):1≤Vg k:=by cases k;rw[Vg];omega
theorem je{k:Cr}{l:List Cr}(h:k∈l):Vg k≤Zf l:=by
 induction l with
 |nil=>cases h
 |cons x l ih=>
  rw[Zf];rcases List.mem_cons.1 h with rfl|h
  ·omega
  ·have:=ih h;omega
theorem Gw{l:List Cr}{k:Cr}(h:l[i]? =some k):Zf (l.drop i)=Vg k+Zf (l.drop (i+1)):=by
 obtain⟨h1,h2⟩:=List.getElem?_eq_some_iff.1 h;rw[List.drop_eq_getElem_cons h1,Zf,h2]
theorem E9{M:Cr→Prop}(h: ∀o a b g n kids,(∀k,k∈kids→M k)→M (.mk o a b g n kids))(k:Cr):M k:=by
 have: ∀n k,Vg k≤n→M k:=by
  intro n
  induction n with
  |zero=>intro k hk;cases k;rw[Vg]at hk;omega
  |succ n ih=>
   intro k hk
   cases k with
   |mk o a b g z kids=>
    rw[Vg]at hk;exact h _ _ _ _ _ _ fun k hm=>ih k (by have:=je hm;omega)
 exact this _ k (Nat.le_refl _)
theorem VI{l:List Cr}{k:Cr}(h:l[i]? =some k):k∈l:=List.mem_of_getElem? h
theorem WZ{l:List Cr}(h:l.length≤i):l.drop i=[]:=List.drop_eq_nil_of_le h
def Uj(o:List Nat):List Nat×Int×Bool:=
 if [116,114,117,101]=o then([],0,true)else if [115,117,98]=o then([65,66],0,true)else if [115,105,110,103]=o then([65],0,true)else if [102,108,97,103]=o then([65],0,true)
 else if [110,111,110,101]=o then([65],0,true)else if [108,101,115,115]=o then([65,66],0,true)else if [112,108,117,115]=o then([65,66,78],0,true)else if [110,117,109]=o then([65,78],0,true)
 else if [117,110,105,111,110]=o then([65,66,67],0,true)else if [105,110,116,101,114]=o then([65,66,67],0,true)else if [109,105,110,117,115]=o then([65,66,67],0,true)
 else if [110,111,116]=o then([],1,true)else if [97,110,100]=o then([],2,true)else if [101,120]=o then([65],1,true)else([],0,false)
def JL(h:List Nat)(k:Nat)(v n:Int):Bool:=if k∈h then decide (0≤v)&&decide (v<n)else decide (v=0)
mutual
def QV : Cr → Int → Bool
  | .mk o a b g n l, m => (Uj o).2.2 && (decide (((l.length : Nat) : Int) = (Uj o).2.1) && (JL (Uj o).1 78 n 21 && (if o = [101, 120] then decide (a = m) && (decide (m < 6) && (decide (b = 0) && (decide (g = 0) && Xu l (m + 1))))
    else JL (Uj o).1 65 a m && (JL (Uj o).1 66 b m && (JL (Uj o).1 67 g m && Xu l m)))))
def Xu : List Cr → Int → Bool
  | [], _ => true
  | k :: l, m => QV k m && Xu l m
end
theorem Ea{l:List Cr}{m:Int}(h:Xu l m=true){k:Cr}(hk:k∈l):QV k m=true:=by
 induction l with
 |nil=>cases hk
 |cons x l ih=>
  rw[Xu,Bool.and_eq_true]at h;rcases List.mem_cons.1 hk with rfl|hk
  ·exact h.1
  ·exact ih h.2 hk
end
section
variable {w:List Nat}

theorem VY{a b:Au}(h:a.tr=b.tr)(hw:X4 a.K w):X4 b.K w:=by unfold Au.K at *;rw[←h];exact hw
structure JR(a m:Au):Prop where
 canon:Canon m
 like:Vc m a 0 0
 tr:m.tr=a.tr
theorem JR.uniq{a b m p:Au}(h1:JR a m)(h2:JR b p)(ht:b.tr=a.tr)(hl:Vc a b 0 0):m=p:=
 Sp h1.canon h2.canon (by rw[h1.tr,h2.tr,ht]) fun w hw=>by
  have ha:=VY h1.tr hw;rw[h1.like w hw,hl w ha];exact(h2.like w (VY (ht.symm.trans h2.tr.symm) ha)).symm
theorem Vc.refl(a:Au)(s:Nat):Vc a a s s:=fun _ _=>rfl
def Au.neg(a:Au):Au:=⟨a.tr,a.acc.map (!·),a.nx⟩
theorem Tl(a:Au):a.neg.n=a.n:=by simp[Au.neg,Au.n]
theorem eL{a:Au}{s:Nat}(h:s<a.n):a.neg.ok s= !a.ok s:=by
 unfold Au.ok Au.neg;simp only[List.getElem?_map];rw[List.getElem?_eq_getElem h];rfl
theorem uq{a:Au}(W:Zp a):Zp a.neg:=
 ⟨W.tr,by rw[Tl];exact W.pos,by rw[Tl];exact W.most,by rw[Tl];exact W.len,fun r hr=>by rw[Tl];exact W.row r hr⟩
theorem xY{a:Au}(W:Zp a)(hw:X4 a.K w){s:Nat}(hs:s<a.n):a.neg.ok (a.neg.run s w)= !a.ok (a.run s w):=eL (W.Nd w hs hw)
def QR (o : List Nat) (n s a b d : Nat) : Nat :=
  if s = 30 then 30
  else if o = [115, 117, 98] then (if a ≤ b then 0 else 30)
  else if o = [110, 111, 110, 101] then (if a = 0 then 0 else 30)
  else if o = [117, 110, 105, 111, 110] then (if d = a ||| b then 0 else 30)
  else if o = [105, 110, 116, 101, 114] then (if d = a &&& b then 0 else 30)
  else if o = [109, 105, 110, 117, 115] then (if d = a - b then 0 else 30)
  else if o = [102, 108, 97, 103] then (if s = 1 ∨ a = 1 then 1 else 30)
  else if o = [115, 105, 110, 103] then (if 1 < s + a then 30 else s + a)
  else if o = [110, 117, 109] then (if s = n + 1 ∧ a = 0 then s else if n < s ∨ (s < n ∧ a = 1) ∨ (s = n ∧ a = 0) then 30 else s + 1)
  else if o = [108, 101, 115, 115] then (if a + b = 0 then s else if s = 0 ∧ a = 1 ∧ b = 0 then 1 else if s = 1 ∧ a = 0 ∧ b = 1 then 2 else 30)
  else if o = [112, 108, 117, 115] then
    (if s = n + 1 ∨ (s = 0 ∧ a = 0) then (if a + b = 0 then s else 30)
     else if s = 0 ∧ n = 0 then (if b = 1 then 1 else 30)
     else if s = 0 then (if b = 0 then 1 else 30)
     else if a = 1 ∨ (s < n ∧ b = 1) ∨ (s = n ∧ b = 0) then 30 else s + 1)
  else 0
def Xh(o:List Nat)(n s:Nat):Bool:=
 if s=30 then false
 else if o=[102,108,97,103]∨o=[115,105,110,103]then decide (s=1)
 else if o=[108,101,115,115]then decide (s=2)
 else if o=[112,108,117,115]∨o=[110,117,109]then decide (s=n+1)
 else true
def Xm(l v:Nat):Nat:=l/2^v % 2
def VU(o:List Nat)(n a b d s l:Nat):Nat:=min (QR o n s (Xm l a) (Xm l b) (Xm l d)) 30
def Zo(o:List Nat)(a b d n k:Nat):Au:=⟨k,(List.range 31).map (Xh o n),(List.range 31).map fun s=>(List.range (2^k)).map fun l=>((VU o n a b d s l:Nat):Int)⟩
section
variable {o:List Nat} {a b d n k:Nat}
theorem C7:(Zo o a b d n k).n=31:=by simp[Zo,Au.n]
theorem PE{s l:Nat}(hs:s<31)(hl:l<2^k):(Zo o a b d n k).go s l=VU o n a b d s l:=by
 unfold Au.go Zo;simp only[List.getElem?_map,List.getElem?_range hs,Option.map_some,Option.getD_some,List.getElem?_range hl,Int.toNat_natCast]
theorem PD{s:Nat}(hs:s<31):(Zo o a b d n k).ok s=Xh o n s:=by
 unfold Au.ok Zo;simp only[List.getElem?_map,List.getElem?_range hs,Option.map_some,Option.getD_some]
theorem HE(s l:Nat):VU o n a b d s l<31:=by unfold VU;omega
theorem PC(hk:k≤6):Zp (Zo o a b d n k):=by
 refine⟨hk,by rw[C7];decide,by rw[C7];decide,by simp[Zo,Au.n],fun r hr=>?_⟩;obtain⟨s,_,rfl⟩:=List.mem_map.1 hr;refine⟨by simp[Zo,Au.K],fun z hz=>?_⟩;obtain⟨l,_,rfl⟩:=List.mem_map.1 hz;have:=HE (o:=o) (n:=n) (a:=a) (b:=b) (d:=d) s l;rw[C7];omega
theorem qE(w:List Nat): ∀{s:Nat},s<31→X4 (2^k) w→(Zo o a b d n k).run s w=w.foldl (VU o n a b d) s:=by
 induction w with
 |nil=>intro s _ _;rfl
 |cons c w ih=>
  intro s hs hw;rw[Au.Nf,PE hs (hw c Q4),ih (HE s c) fun x hx=>hw x (by simp[hx])];rfl
end
inductive Jl:Cr→Nat→Au→Nat→Prop
 |atom {o:List Nat} {a b d n:Int} {k:Nat} {m:Au} (h1:o≠[110,111,116]) (h2:o≠[97,110,100]) (h3:o≠[101,120]) (h:JR (Zo o a.toNat b.toNat d.toNat n.toNat k) m):Jl (.mk o a b d n []) k m m.n
 |not {o:List Nat} {a b d n:Int} {x:Cr} {k s:Nat} {p m:Au} (ho:o=[110,111,116]) (hx:Jl x k p s) (h:JR p.neg m):Jl (.mk o a b d n [x]) k m (s+m.n)
 |and {o:List Nat} {a b d n:Int} {x y:Cr} {k s t:Nat} {p q r m:Au} {lp:List (Nat×Nat)} (ho:o=[97,110,100]) (hx:Jl x k p s) (hy:Jl y k q t) (hb:I6 p q 8 lp r) (h:JR r m):Jl (.mk o a b d n [x,y]) k m (s+t+m.n)
 |ex {o:List Nat} {a b d n:Int} {x:Cr} {k s:Nat} {p r m:Au} {acc:List Bool} {L:List (List Int)} (ho:o=[101,120]) (hx:Jl x (k+1) p s) (hc:EO p k acc) (hm:UA (JY p k) [0] (anyS acc) L r) (ht:r.tr=k) (h:JR r m):Jl (.mk o a b d n [x]) k m (s+m.n)
section
variable {c x y:Cr} {k s t:Nat} {m p q:Au}
theorem Jl.least(h:Jl c k m s): ∃r,JR r m:=by cases h<;>exact⟨_,‹JR _ m›⟩
theorem Jl.canon(h:Jl c k m s):Canon m:=by obtain⟨r,h⟩:=h.least;exact h.canon
theorem Jl.wf(h:Jl c k m s):Zp m:=h.canon.wf
theorem Jl.ge(h:Jl c k m s):m.n≤s:=by cases h<;>omega
theorem Jl.pos(h:Jl c k m s):1≤s:=Nat.le_trans h.wf.pos h.ge
theorem Jl.tr(h:Jl c k m s):m.tr=k:=by
 induction h with
 |atom _ _ _ h=>exact h.tr
 |not _ hx h ih=>exact h.tr.trans ih
 |and _ hx hy hb h ih1 ih2=>exact h.tr.trans (hb.2.trans ih1)
 |ex _ hx hc hm ht h ih=>exact h.tr.trans ht
theorem xf(x y:Bool):CR 8 x y=(x&&y):=by cases x<;>cases y<;>rfl
theorem Jl.uJ{o:List Nat}{a b d n:Int}(hx:Jl x k p s)(h:JR p.neg m)(hw:X4 (2^k) w):m.ok (m.run 0 w)= !p.ok (p.run 0 w):=by
 have hp:X4 p.K w:=by unfold Au.K;rw[hx.tr];exact hw
 rw[h.like w (VY h.tr.symm hp),xY hx.wf hp hx.wf.pos]
theorem Jl.uL{lp:List (Nat×Nat)}{r:Au}(hx:Jl x k p s)(hb:I6 p q 8 lp r)(h:JR r m)(hw:X4 (2^k) w):m.ok (m.run 0 w)=(p.ok (p.run 0 w)&&q.ok (q.run 0 w)):=by
 have hp:X4 p.K w:=by unfold Au.K;rw[hx.tr];exact hw
 rw[h.like w (VY (hb.2.symm.trans h.tr.symm) hp),hb.DP hp,xf]
theorem Jl.uniq(h:Jl c k m s): ∀{m':Au} {s':Nat},Jl c k m' s'→m=m'∧s=s':=by
 induction h with
 |atom h1 h2 h3 h=>
  intro m' s' h'
  cases h' with
  |atom _ _ _ h'=>
   have e:=h.uniq h' rfl (Vc.refl _ _);subst e;exact⟨rfl,rfl⟩
 |not ho hx h ih=>
  intro m' s' h'
  cases h' with
  |not ho' hx' h'=>
   obtain⟨rfl,rfl⟩:=ih hx';have e:=h.uniq h' rfl (Vc.refl _ _);subst e;exact⟨rfl,rfl⟩
  |ex ho'=>rw[ho]at ho';simp at ho'
 |and ho hx hy hb h ih1 ih2=>
  intro m' s' h'
  cases h' with
  |and ho' hx' hy' hb' h'=>
   obtain⟨rfl,rfl⟩:=ih1 hx';obtain⟨rfl,rfl⟩:=ih2 hy'
   have e:=h.uniq h' (by rw[hb.2,hb'.2]) fun w hw=>by
    have hp:=VY hb.2 hw;rw[hb.DP hp,hb'.DP hp]
   subst e;exact⟨rfl,rfl⟩
 |ex ho hx hc hm ht h ih=>
  intro m' s' h'
  cases h' with
  |not ho'=>rw[ho]at ho';simp at ho'
  |ex ho' hx' hc' hm' ht' h'=>
   obtain⟨rfl,rfl⟩:=ih hx';obtain rfl:=hc.uniq hc'
   have e:=h.uniq h' (by rw[ht,ht']) fun w hw=>by
    rw[hm.DP hw,hm'.DP (VY (ht.trans ht'.symm) hw)]
   subst e;exact⟨rfl,rfl⟩
end
section
variable {α β:Type} {δ:α→Nat→α} {δ':β→Nat→β} {s0:α} {pr:α→Bool} {pr':β→Bool} {l:List α} {m:Au}
end
section
variable {x y:Cr} {k s:Nat} {m:Au}
end
end
section
variable {s:Nat}

def Jp(o:List Nat)(n s:Nat)(x y z:Bool):Int:=
 if o=[116,114,117,101]then 0
 else if o=[115,117,98]then(if(!x||y)=true then 0 else-1)
 else if o=[110,111,110,101]then(if(!x)=true then 0 else-1)
 else if o=[117,110,105,111,110]then(if(z==(x||y))=true then 0 else-1)
 else if o=[105,110,116,101,114]then(if(z==(x&&y))=true then 0 else-1)
 else if o=[109,105,110,117,115]then(if(z==(x&& !y))=true then 0 else-1)
 else if o=[115,105,110,103]then(if x=false then((s:Nat):Int)else if s=0 then 1 else-1)
 else if o=[102,108,97,103]then(if s=1∨x=true then 1 else-1)
 else if o=[108,101,115,115]then(if x=false∧y=false then((s:Nat):Int)else if s=0∧x=true∧y=false then 1 else if s=1∧y=true∧x=false then 2 else-1)
 else if o=[112,108,117,115]then(if s=0∧x=true∧y=decide (n=0)then 1 else if(s=0∧x=false∧y=false)∨(s=n+1∧x=false∧y=false)then((s:Nat):Int)else if 0<s∧s<n+1∧x=false∧y=decide (s=n)then((s+1:Nat):Int)else-1)
 else(if s<n+1∧x=decide (s=n)then((s+1:Nat):Int)else if s=n+1∧x=false then((n+1:Nat):Int)else-1)
def Jc(o:List Nat)(n:Nat):Nat:=
 if o=[115,105,110,103]∨o=[102,108,97,103]then 1 else if o=[108,101,115,115]then 2 else if o=[112,108,117,115]∨o=[110,117,109]then n+1 else 0
abbrev Qu(o:List Nat)(n:Nat):Nat:=Jc o n+1
def VQ(o:List Nat):Prop:=o=[116,114,117,101]∨o=[115,117,98]∨o=[110,111,110,101]∨o=[117,110,105,111,110]∨o=[105,110,116,101,114]∨o=[109,105,110,117,115]∨o=[115,105,110,103]∨o=[102,108,97,103]∨o=[108,101,115,115]∨o=[112,108,117,115]∨o=[110,117,109]
def Vt(b:Bool):Nat:=if b then 1 else 0
theorem jm{o:List Nat}(h:VQ o){n:Nat}(hn:n≤20)(hs:s<Qu o n)(x y z:Bool):(Jp o n s x y z= -1∧QR o n s (Vt x) (Vt y) (Vt z)=30)∨ ∃t:Nat,Jp o n s x y z=((t:Nat):Int)∧t<Qu o n∧QR o n s (Vt x) (Vt y) (Vt z)=t:=by
 have hst:Qu o n≤22:=by unfold Qu Jc;split<;>(try split)<;>(try split)<;>omega
 have h30: ¬s=30:=by omega
 rcases h with rfl|rfl|rfl|rfl|rfl|rfl|rfl|rfl|rfl|rfl|rfl
 ·clear hst;simp[Qu,Jc]at hs;simp only[Jp,QR,Qu,Jc,if_neg h30];cases x<;>cases y<;>cases z<;>simp[Vt]<;>first|omega|(rcases(show s=0∨s=1∨s=2 by omega)with rfl|rfl|rfl<;>first|omega|(simp;done)|simp_all)|simp_all
 ·clear hst;simp[Qu,Jc]at hs;simp only[Jp,QR,Qu,Jc,if_neg h30];cases x<;>cases y<;>cases z<;>simp[Vt]<;>first|omega|(rcases(show s=0∨s=1∨s=2 by omega)with rfl|rfl|rfl<;>first|omega|(simp;done)|simp_all)|simp_all
 ·clear hst;simp[Qu,Jc]at hs;simp only[Jp,QR,Qu,Jc,if_neg h30];cases x<;>cases y<;>cases z<;>simp[Vt]<;>first|omega|(rcases(show s=0∨s=1∨s=2 by omega)with rfl|rfl|rfl<;>first|omega|(simp;done)|simp_all)|simp_all
 ·clear hst;simp[Qu,Jc]at hs;simp only[Jp,QR,Qu,Jc,if_neg h30];cases x<;>cases y<;>cases z<;>simp[Vt]<;>first|omega|(rcases(show s=0∨s=1∨s=2 by omega)with rfl|rfl|rfl<;>first|omega|(simp;done)|simp_all)|simp_all
 ·clear hst;simp[Qu,Jc]at hs;simp only[Jp,QR,Qu,Jc,if_neg h30];cases x<;>cases y<;>cases z<;>simp[Vt]<;>first|omega|(rcases(show s=0∨s=1∨s=2 by omega)with rfl|rfl|rfl<;>first|omega|(simp;done)|simp_all)|simp_all
 ·clear hst;simp[Qu,Jc]at hs;simp only[Jp,QR,Qu,Jc,if_neg h30];cases x<;>cases y<;>cases z<;>simp[Vt]<;>first|omega|(rcases(show s=0∨s=1∨s=2 by omega)with rfl|rfl|rfl<;>first|omega|(simp;done)|simp_all)|simp_all
 ·clear hst;simp[Qu,Jc]at hs;simp only[Jp,QR,Qu,Jc,if_neg h30];cases x<;>cases y<;>cases z<;>simp[Vt]<;>first|omega|(rcases(show s=0∨s=1∨s=2 by omega)with rfl|rfl|rfl<;>first|omega|(simp;done)|simp_all)|simp_all
 ·clear hst;simp[Qu,Jc]at hs;simp only[Jp,QR,Qu,Jc,if_neg h30];cases x<;>cases y<;>cases z<;>simp[Vt]<;>first|omega|(rcases(show s=0∨s=1∨s=2 by omega)with rfl|rfl|rfl<;>first|omega|(simp;done)|simp_all)|simp_all
 ·clear hst;simp[Qu,Jc]at hs;simp only[Jp,QR,Qu,Jc,if_neg h30];cases x<;>cases y<;>cases z<;>simp[Vt]<;>first|omega|(rcases(show s=0∨s=1∨s=2 by omega)with rfl|rfl|rfl<;>first|omega|(simp;done)|simp_all)|simp_all
 ·simp[Qu,Jc]at hs;simp only[Jp,QR,Qu,Jc,if_neg h30];rcases(show(s=0∧n=0)∨(s=0∧0<n)∨(0<s∧s<n)∨(0<s∧s=n)∨s=n+1 by omega)with⟨rfl,rfl⟩|⟨rfl,h1⟩|⟨h1,h2⟩|⟨h1,rfl⟩|rfl
  ·cases x<;>cases y<;>simp[Vt]
  ·have e1: ¬n=0:=by omega
   cases x<;>cases y<;>simp[Vt,e1]<;>omega
  ·have e1: ¬s=0:=by omega
   have e2: ¬s=n+1:=by omega
   have e3: ¬s=n:=by omega
   have e4:s<n+1:=by omega
   cases x<;>cases y<;>simp[Vt,e1,e2,e3,e4,h1,h2]<;>first|omega|exact⟨s+1,rfl,by omega,rfl⟩|exact⟨s+1,by omega,by omega,by omega⟩
  ·have e1: ¬s=0:=by omega
   cases x<;>cases y<;>simp[Vt,e1,h1]<;>first|omega|exact⟨s+1,rfl,by omega,rfl⟩|exact⟨s+1,by omega,by omega,by omega⟩
  ·cases x<;>cases y<;>simp[Vt]<;>first|omega|exact⟨n+1,by omega,by omega,by omega⟩
 ·simp[Qu,Jc]at hs;simp only[Jp,QR,Qu,Jc,if_neg h30];rcases(show s<n∨s=n∨s=n+1 by omega)with h1|rfl|rfl
  ·have e2: ¬s=n+1:=by omega
   have e3: ¬s=n:=by omega
   have e4:s<n+1:=by omega
   have e5: ¬n<s:=by omega
   cases x<;>simp[Vt,e2,e3,e4,e5,h1]<;>first|omega|exact⟨s+1,by omega,by omega,by omega⟩
  ·cases x<;>simp[Vt]<;>first|omega|exact⟨s+1,by omega,by omega,by omega⟩
  ·cases x<;>simp[Vt]<;>first|omega|exact⟨n+1,by omega,by omega,by omega⟩
theorem C6(l v:Nat):Vt (decide (((Xm l v:Nat):Int)=1))=Xm l v:=by
 have h:Xm l v=0∨Xm l v=1:=by unfold Xm;omega
 rcases h with h|h<;>rw[h]<;>rfl
abbrev ZA(l v:Nat):Bool:=decide (((Xm l v:Nat):Int)=1)
def EP(o:List Nat)(n a b d s l:Nat):Nat:=if s<Qu o n then(if Jp o n s (ZA l a) (ZA l b) (ZA l d)= -1 then Qu o n else(Jp o n s (ZA l a) (ZA l b) (ZA l d)).toNat)else Qu o n
def Rs(o:List Nat)(n a b d k s:Nat):List Int:=(List.range (2^k)).map fun l=>((EP o n a b d s l:Nat):Int)
def V5(o:List Nat)(a b d n k:Nat):Au:=⟨k,(List.range (Qu o n+1)).map fun s=>decide (((s:Nat):Int)=((Jc o n:Nat):Int)),(List.range (Qu o n+1)).map (Rs o n a b d k)⟩
section
variable {o:List Nat} {a b d n k:Nat}
theorem A6(n:Nat)(hn:n≤20):Jc o n≤21:=by unfold Jc;split<;>(try split)<;>(try split)<;>omega
theorem BJ:(V5 o a b d n k).n=Qu o n+1:=by simp[V5,Au.n]
theorem jG{l:Nat}(hs:s<Qu o n+1)(hl:l<2^k):(V5 o a b d n k).go s l=EP o n a b d s l:=by
 unfold Au.go V5 Rs;simp only[List.getElem?_map,List.getElem?_range hs,Option.map_some,Option.getD_some,List.getElem?_range hl,Int.toNat_natCast]
theorem jF(hs:s<Qu o n+1):(V5 o a b d n k).ok s=decide (((s:Nat):Int)=((Jc o n:Nat):Int)):=by
 unfold Au.ok V5;simp only[List.getElem?_map,List.getElem?_range hs,Option.map_some,Option.getD_some]
def CC(o:List Nat)(n s t:Nat):Prop:=(s=t∧s<Qu o n)∨(s=Qu o n∧t=30)
theorem CC.step(h:VQ o)(hn:n≤20){t:Nat}(R:CC o n s t)(l:Nat):CC o n (EP o n a b d s l) (VU o n a b d t l):=by
 have hl:=A6 (o:=o) n hn;have hsp:Qu o n=Jc o n+1:=rfl;rcases R with⟨rfl,hs⟩|⟨rfl,rfl⟩
 ·unfold EP VU;rw[if_pos hs,←C6 l a,←C6 l b,←C6 l d];rcases jm h hn hs (ZA l a) (ZA l b) (ZA l d)with⟨h1,h2⟩|⟨t,h1,h2,h3⟩
  ·rw[if_pos h1,h2];exact .inr ⟨rfl,rfl⟩
  ·rw[h1,if_neg Qc,h3,Int.toNat_natCast];exact .inl ⟨by omega,h2⟩
 ·unfold EP VU QR;rw[if_neg (Nat.lt_irrefl _),if_pos rfl];exact .inr ⟨rfl,rfl⟩
theorem uf(h:VQ o)(hn:n≤20)(s l:Nat):EP o n a b d s l<Qu o n+1:=by
 by_cases hs:s<Qu o n
 ·rcases CC.step (a:=a) (b:=b) (d:=d) h hn (.inl ⟨rfl,hs⟩:CC o n s s) l with⟨_,h1⟩|⟨h1,_⟩<;>omega
 ·unfold EP;rw[if_neg hs];omega
theorem jE(h:VQ o)(hn:n≤20)(hk:k≤6):Zp (V5 o a b d n k):=by
 have hl:=A6 (o:=o) n hn;have hsp:Qu o n=Jc o n+1:=rfl;refine⟨hk,by rw[BJ];omega,by rw[BJ];omega,by simp[V5,Au.n],fun r hr=>?_⟩;obtain⟨s,_,rfl⟩:=List.mem_map.1 hr;refine⟨by simp[Rs,V5,Au.K],fun z hz=>?_⟩;obtain⟨l,_,rfl⟩:=List.mem_map.1 hz;have:=uf (a:=a) (b:=b) (d:=d) h hn s l;rw[BJ];omega
theorem CC.ok(h:VQ o)(hn:n≤20){t:Nat}(R:CC o n s t):decide (((s:Nat):Int)=((Jc o n:Nat):Int))=Xh o n t:=by
 have hl:=A6 (o:=o) n hn;have hsp:Qu o n=Jc o n+1:=rfl;rcases R with⟨rfl,hs⟩|⟨rfl,rfl⟩
 ·unfold Xh;rw[if_neg Qc]
  rcases h with rfl|rfl|rfl|rfl|rfl|rfl|rfl|rfl|rfl|rfl|rfl<;>simp[Qu,Jc]at hs ⊢ <;>first|omega|(rw[decide_eq_decide];omega)
 ·unfold Xh;rw[if_pos rfl,decide_eq_false Qc]
theorem R3(h:VQ o)(hn:n≤20):Vc (V5 o a b d n k) (Zo o a b d n k) 0 0:=fun w hw=>by
 have key: ∀(w:List Nat) (s t:Nat),X4 (2^k) w→CC o n s t→t<31→CC o n ((V5 o a b d n k).run s w) ((Zo o a b d n k).run t w):=by
  intro w
  induction w with
  |nil=>intro s t _ R _;exact R
  |cons c w ih=>
   intro s t hw R ht
   have hs:s<Qu o n+1:=by rcases R with⟨_,h1⟩|⟨h1,_⟩<;>omega
   rw[Au.Nf,Au.Nf,jG hs (hw c Q4),PE ht (hw c Q4)];exact ih _ _ (fun x hx=>hw x (by simp[hx])) (R.step h hn c) (HE _ _)
 have R:=key w 0 0 hw (.inl ⟨rfl,Nat.succ_pos _⟩) Q8;have hl:=A6 (o:=o) n hn;have hsp:Qu o n=Jc o n+1:=rfl
 have hs:(V5 o a b d n k).run 0 w<Qu o n+1:=by rcases R with⟨_,h1⟩|⟨h1,_⟩<;>omega
 have ht:(Zo o a b d n k).run 0 w<31:=by rcases R with⟨h1,h2⟩|⟨_,h1⟩<;>omega
 rw[jF hs,PD ht,R.ok h hn]
theorem JR.trans{x y m:Au}(h:JR x m)(hl:Vc x y 0 0)(ht:y.tr=x.tr):JR y m:=
 ⟨h.canon,fun w hw=>by rw[h.like w hw];exact hl w (VY h.tr hw),h.tr.trans ht.symm⟩
theorem JR.atom(h:VQ o)(hn:n≤20){m:Au}(hm:JR (V5 o a b d n k) m):JR (Zo o a b d n k) m:=hm.trans (R3 h hn) rfl
end
end
section
variable {s:Nat}

def JZ:List Int→List Int→List Int
 |seen,[]=>seen
 |seen,x::xs=>if x∈seen then JZ seen xs else JZ (seen++[x]) xs
theorem AX: ∀(xs seen:List Int),(JZ seen xs).length≤seen.length+xs.length
 |[],seen=>by simp[JZ]
 |x::xs,seen=>by
  rw[JZ]
  split
  ·have:=AX xs seen;simp only[List.length_cons];omega
  ·have:=AX xs (seen++[x]);simp only[List.length_cons,List.length_append,List.length_nil]at this ⊢;omega
theorem Lz: ∀(xs seen:List Int) {x:Int} {i:Nat},seen.Nodup→(JZ seen xs)[i]? =some x→Ui seen (xs++[x])=Ui seen xs++[((i:Nat):Int)]∧JZ seen (xs++[x])=JZ seen xs
 |[],seen,x,i,hn,h=>by
  have h:seen[i]? =some x:=h;have hm:=List.mem_of_getElem? h
  have hi:seen.idxOf x=i:=by
   have hlt:=List.idxOf_lt_length_of_mem hm;exact(List.getElem?_inj hlt hn).1 (by rw[List.getElem?_eq_getElem hlt,List.getElem_idxOf,h])
  rw[List.nil_append];unfold Ui JZ;rw[if_pos hm,if_pos hm,hi];exact⟨rfl,rfl⟩
 |y::xs,seen,x,i,hn,h=>by
  rw[JZ]at h;rw[List.cons_append,Ui,Ui,JZ,JZ]
  split at h
  ·rename_i hy;obtain⟨h1,h2⟩:=Lz xs seen hn h;rw[if_pos hy,if_pos hy,if_pos hy,if_pos hy,h1,h2];exact⟨rfl,rfl⟩
  ·rename_i hy;have hn':(seen++[y]).Nodup:=List.nodup_append.2 ⟨hn,by simp,fun a ha b hb e=>by rw[List.mem_singleton]at hb;subst hb e;exact hy ha⟩;obtain⟨h1,h2⟩:=Lz xs _ hn' h;rw[if_neg hy,if_neg hy,if_neg hy,if_neg hy,h1,h2];exact⟨rfl,rfl⟩
theorem L4: ∀(xs seen:List Int) {x:Int},x∉JZ seen xs→Ui seen (xs++[x])=Ui seen xs++[(((JZ seen xs).length:Nat):Int)]∧JZ seen (xs++[x])=JZ seen xs++[x]
 |[],seen,x,h=>by
  have h:x∉seen:=h;rw[List.nil_append];unfold Ui JZ;rw[if_neg h,if_neg h];exact⟨rfl,rfl⟩
 |y::xs,seen,x,h=>by
  rw[JZ]at h;rw[List.cons_append,Ui,Ui,JZ,JZ]
  split at h
  ·rename_i hy;obtain⟨h1,h2⟩:=L4 xs seen h;rw[if_pos hy,if_pos hy,if_pos hy,if_pos hy,h1,h2];exact⟨rfl,rfl⟩
  ·rename_i hy;obtain⟨h1,h2⟩:=L4 xs _ h;rw[if_neg hy,if_neg hy,if_neg hy,if_neg hy,h1,h2];exact⟨rfl,rfl⟩
theorem Ct{l:List Int}{x:Int}(h:s<l.length):cv (l++[x]) s=cv l s:=by unfold cv;rw[List.getElem?_append_left h]
theorem Cs(l:List Int)(x:Int):cv (l++[x]) l.length=x:=by unfold cv;rw[List.getElem?_append_right (Nat.le_refl _),Nat.sub_self];rfl
theorem D6(n:Nat): ∀xs:List Int,xs.length=n→Kn n (Ui [] xs) (JZ [] xs).length:=by
 induction n with
 |zero=>
  intro xs h;have:=List.eq_nil_of_length_eq_zero h;subst this;exact⟨fun s hs=>absurd hs (Nat.not_lt_zero s),fun v hv=>absurd hv (Nat.not_lt_zero v)⟩
 |succ n ih=>
  intro xs h;obtain⟨ys,x,rfl⟩: ∃ys x,xs=ys++[x]:=⟨xs.dropLast,xs.getLast (by intro e;subst e;simp at h),(List.dropLast_concat_getLast _).symm⟩
  have hl:ys.length=n:=by simpa using h
  obtain⟨h1,h2⟩:=ih ys hl
  have hnl:(Ui [] ys).length=n:=by rw[XL];exact hl
  by_cases hx:x∈JZ [] ys
  ·obtain⟨i,hi⟩:=List.getElem?_of_mem hx;have hlt:=(List.getElem?_eq_some_iff.1 hi).1;obtain⟨e1,e2⟩:=Lz ys [] List.nodup_nil hi;rw[e1,e2];refine⟨fun s hs=>?_,fun v hv=>?_⟩
   ·by_cases hsn:s<n
    ·rw[Ct Qc];exact h1 s hsn
    ·have:s=(Ui [] ys).length:=by omega
     rw[this,Cs];omega
   ·obtain⟨s,k1,k2⟩:=h2 v hv;exact⟨s,by omega,by rw[Ct Qc];exact k2⟩
  ·obtain⟨e1,e2⟩:=L4 ys [] hx;rw[e1,e2,List.length_append,List.length_singleton];refine⟨fun s hs=>?_,fun v hv=>?_⟩
   ·by_cases hsn:s<n
    ·rw[Ct Qc];have:=h1 s hsn;omega
    ·have:s=(Ui [] ys).length:=by omega
     rw[this,Cs];omega
   ·by_cases hvl:v<(JZ [] ys).length
    ·obtain⟨s,k1,k2⟩:=h2 v hvl;exact⟨s,by omega,by rw[Ct Qc];exact k2⟩
    ·refine⟨n,Nat.lt_succ_self n,?_⟩;rw[←hnl,Cs];omega
theorem Sh{α:Type}{l:List α}{f:α→Int}{x:α}(h:l[s]? =some x):cv (l.map f) s=f x:=by unfold cv;rw[List.getElem?_map,h];rfl
theorem jO{n r q c d:Int}(hc:0≤c∧c<n)(hd:0≤d∧d<n):(r *n+c=q *n+d)↔r=q∧c=d:=by
 refine⟨fun h=>?_,fun⟨h1,h2⟩=>by rw[h1,h2]⟩
 have e:(r-q) *n=d-c:=by rw[Int.sub_mul];omega
 have hrq:r=q:=by
  rcases Int.lt_trichotomy r q with h1|h1|h1
  ·exfalso
   have:=Int.mul_le_mul_of_nonneg_right (show r-q≤ -1 by omega) (show 0≤n by omega);omega
  ·exact h1
  ·exfalso
   have:=Int.mul_le_mul_of_nonneg_right (show 1≤r-q by omega) (show 0≤n by omega);omega
 subst hrq;exact⟨rfl,by omega⟩
structure VO(a:Au)(cl:List Int)(ls:List Nat)(rows:List (List Int))(row:List Int):Prop where
 pr:V1 (Kf a cl) (cv cl 0) (2^a.tr) (ls.map (cv cl)) rows row
 lt: ∀s∈ls,s<a.n
section
variable {a:Au} {cl:List Int} {ls:List Nat} {rows:List (List Int)} {row:List Int}
theorem VO.le(H:VO a cl ls rows row)(hr: ∀s,s<a.n→0≤cv cl s∧cv cl s<((a.n:Nat):Int)):ls.length≤a.n:=by
 have h:=Xa (b:=(List.range a.n).map fun z=>((z:Nat):Int)) H.pr.nodup fun x hx=>by
  obtain⟨s,hs,rfl⟩:=List.mem_map.1 hx;have:=hr s (H.lt s hs);exact List.mem_map.2 ⟨(cv cl s).toNat,List.mem_range.2 Qc,by omega⟩
 simpa using h
theorem VO.start(W:Zp a):VO a cl [0] [] []:=⟨V1.start _ _ _,fun s hs=>by rw[List.mem_singleton.1 hs];exact W.pos⟩
theorem VO.next(W:Zp a)(hc:ZO a cl){y:Nat}(hs:ls[rows.length]? =some s)(hls:s<a.n)(hr:row.length<2^a.tr)(hy:a.go s row.length=y):(ls.map (cv cl))[rows.length]? =some (cv cl s)∧Kf a cl (cv cl s) row.length=cv cl y:=by
 refine⟨by rw[List.getElem?_map,hs];rfl,?_⟩;rw[LD (hc.IG W) hls hr,hy]
theorem VO.new(H:VO a cl ls rows row)(W:Zp a)(hc:ZO a cl){s y:Nat}(hs:ls[rows.length]? =some s)(hr:row.length<2^a.tr)(hy:a.go s row.length=y)(hyn:y<a.n)(hn:cv cl y∉ls.map (cv cl)):VO a cl (ls++[y]) rows (row++[((ls.length:Nat):Int)]):=by
 obtain⟨h1,h2⟩:=VO.next W hc hs (H.lt s (List.mem_of_getElem? hs)) hr hy;have h4:=H.pr.new hr h1 (by rw[h2];exact hn);rw[h2,List.length_map]at h4;refine⟨by rw[List.map_append];exact h4,fun t ht=>?_⟩;rcases List.mem_append.1 ht with ht|ht
 ·exact H.lt t ht
 ·rw[List.mem_singleton.1 ht];exact hyn
theorem VO.J9(H:VO a cl ls rows row)(W:Zp a)(hc:ZO a cl){s y j:Nat}(hs:ls[rows.length]? =some s)(hr:row.length<2^a.tr)(hy:a.go s row.length=y)(hj:(ls.map (cv cl))[j]? =some (cv cl y)):VO a cl ls rows (row++[((j:Nat):Int)]):=by
 obtain⟨h1,h2⟩:=VO.next W hc hs (H.lt s (List.mem_of_getElem? hs)) hr hy;exact⟨H.pr.J9 hr h1 (by rw[h2];exact hj),H.lt⟩
theorem VO.whole(H:VO a cl ls rows row)(hr:row.length=2^a.tr):VO a cl ls (rows++[row]) []:=⟨H.pr.whole hr,H.lt⟩
theorem VO.made(H:VO a cl ls rows [])(W:Zp a)(hc:ZO a cl)(hn:ls.length≤400)(hl:rows.length=ls.length):UA (Kf a cl) (cv cl 0) (P0 a cl) (ls.map (cv cl)) ⟨a.tr,ls.map a.ok,rows⟩:=by
 refine H.pr.made (m:=⟨a.tr,ls.map a.ok,rows⟩) (by rw[List.length_map];exact hl) ?_ W.tr (by rw[List.length_map];exact hn);show ls.map a.ok=(ls.map (cv cl)).map (P0 a cl);rw[List.map_map];exact List.map_congr_left fun s hs=>(Cx hc (H.lt s hs)).symm
theorem VO.least(H:VO a cl ls rows [])(W:Zp a)(hc:ZO a cl)(hn:ls.length≤400)(hl:rows.length=ls.length):JR a ⟨a.tr,ls.map a.ok,rows⟩:=by
 obtain⟨h1,h2⟩:=GD (m:=⟨a.tr,ls.map a.ok,rows⟩) W hc rfl (H.made W hc hn hl);exact⟨h1,h2,rfl⟩
end
end
section

def UU{α:Type}:Nat→List α→List (α×AV)
 |_,[]=>[]
 |j,n::S=>(n,.int .i64 (j:Nat))::UU (j+1) S
section
variable {α β:Type}
theorem Fu: ∀(j:Nat) (S:List α) (n:α),UU j (S++[n])=UU j S++[(n,.int .i64 (j+S.length:Nat))]
 |j,[],n=>by simp[UU]
 |j,x::S,n=>by
  rw[List.cons_append,UU,UU,Fu (j+1) S n,List.cons_append,List.length_cons,show j+1+S.length=j+(S.length+1) by omega]
theorem Pn: ∀{j:Nat} {S:List α} {n:α} {v:AV},(n,v)∈UU j S→ ∃i:Nat,S[i]? =some n∧v=.int .i64 (j+i:Nat)
 |j,[],n,v,h=>by cases h
 |j,x::S,n,v,h=>by
  rcases List.mem_cons.1 h with e|h
  ·injection e with e1 e2
   subst e1 e2;exact⟨0,rfl,rfl⟩
  ·obtain⟨i,h1,h2⟩:=Pn h;exact⟨i+1,h1,by rw[h2];congr 2;omega⟩
theorem DC: ∀{j:Nat} {S:List α} {n:α},n∈S→ ∃v,(n,v)∈UU j S
 |j,[],n,h=>by cases h
 |j,x::S,n,h=>by
  rcases List.mem_cons.1 h with rfl|h
  ·exact⟨_,List.mem_cons_self ..⟩
  ·obtain⟨v,hv⟩:=DC (j:=j+1) h;exact⟨v,List.mem_cons_of_mem _ hv⟩
theorem NI{S:List α}{n:α}(h:Yp (UU 0 S) n=none):n∉S:=fun hm=>by
 obtain⟨v,hv⟩:=DC (j:=0) hm;exact NG h v hv
theorem NH{S:List α}{n:α}{v:AV}(h:Yp (UU 0 S) n=some v): ∃i:Nat,S[i]? =some n∧v=.int .i64 (i:Nat):=by
 obtain⟨i,h1,h2⟩:=Pn (L8 h);exact⟨i,h1,by rw[h2,Nat.zero_add]⟩
theorem VR.comp{P:Program}{t:TypeId}{key:α→AV}{z:AV}(T:VR P t key z)(f:β→α)(hi: ∀x y,f x=f y→x=y):VR P t (fun x=>key (f x)) z:=by
 obtain⟨kt,et,d,u1,u2,u3,u4,u5,u6⟩:=T.rule;exact⟨kt,et,d,u1,u2,u3,fun a=>u4 _,fun a i=>u5 _ i,fun a b v n es i=>⟨fun h=>(u6 (f a) (f b) v n es i).1 (congrArg f h),fun h=>(u6 (f a) (f b) v n es i).2 fun e=>h (hi _ _ e)⟩⟩
end
abbrev Xt(p:Nat×Nat):AV:=.agg [.int .i64 (p.1:Nat),.int .i64 (p.2:Nat)]
theorem WS:VR Tryz.prog 172 Xt (.int .i64 0):=uR.comp (fun p:Nat×Nat=>(((p.1:Nat):Int),((p.2:Nat):Int))) fun x y e=>by
 injection e with e1 e2
 exact Prod.ext Qc Qc
end
end Go.Proofs.YtiknomepbklibaaGreatDoor
