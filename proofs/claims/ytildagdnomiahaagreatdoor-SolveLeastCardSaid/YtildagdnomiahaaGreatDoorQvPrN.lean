/-
  Closed by a track: the program's answer, the reference's.
-/
import Derived.Test.YtildagdnomiahaaGreatDoorQvOr
import Derived.Test.YtildagdnomiahaaGreatDoorQvMnP
set_option maxHeartbeats 8000000
set_option maxRecDepth 100000
set_option linter.unnecessarySimpa false
set_option linter.unusedSimpArgs false
set_option linter.unusedVariables false
namespace Go.Proofs.YtildagdnomiahaaGreatDoor
open Go Go.RowKit
section
variable {a:Au}

theorem Xu.zH(wf:Xu a){acc:List Bool}(h:acc.length=a.n):Xu ⟨a.tr,acc,a.nx⟩:=⟨wf.tr,by show 1≤acc.length;rw[h];exact wf.pos,by show acc.length≤400;rw[h];exact wf.most,by show a.nx.length=acc.length;rw[h];exact wf.len,fun r hr=>by show r.length=a.K∧ ∀z∈r,0≤z∧z<acc.length;rw[h];exact wf.row r hr⟩
theorem wh{k:Nat}(wf:Xu a)(hk:k<a.tr):2^k<2^a.tr:=Nat.pow_lt_pow_right Q9 hk

theorem Rt{st:St}(hf:Qh st){F:Fp}{dp:Nat}(hD:JH st F dp a)(k:Int): ∃v st',QV 268 [.ptr dp 0 0,iZ k] st v st'∧v=.bool (decide (0≤k∧k<a.tr))∧Qt st st':=by
 refine Jv Tryz.func268 Tryz.ntmps268 fun T K=>?_;have M:=Mem.start hf;refine Qb 2 K M fun _ K=>?_;refine p1 K (xD J7 rfl rfl) fun _ K=>?_;refine Qb 4 K M fun _ K=>?_;refine U5 K rfl (fun _ e11 K=>?_) fun _ e11 K=>?_
 · refine Qb 6 K M ?_;refine⟨congrArg AV.bool ?_,M.qt⟩
   first
    |exact(decide_eq_decide.2 ⟨fun h=>⟨by omega,h⟩,fun h=>h.2⟩)
    |exact(decide_eq_false Qd).symm
 refine Qb 2 K M fun _ K=>?_;obtain⟨v14,st14,ev14,rfl,q14⟩:=Yg M.fresh (hD.q M.qt);refine pg K rfl rfl (Qf rfl ev14) fun _ K=>?_;replace M:=M.quiet q14;refine Qb 3 K M ?_;refine⟨congrArg AV.bool ?_,M.qt⟩
 first
  |exact(decide_eq_decide.2 ⟨fun h=>⟨by omega,h⟩,fun h=>h.2⟩)
  |exact(decide_eq_false Qd).symm

theorem Ma {st : St} (hf : Qh st) {F : Fp} {dp : Nat} (hD : JH st F dp a) {k : Nat} (hk : k < a.tr) : ∃ v st', QV 246 [.ptr dp 0 0, iN k] st v st' ∧ ∃ dp2 F2 acc, v = .tup [.ptr dp2 0 0, iZ 0] ∧ AZ a k acc ∧ JH st' F2 dp2 ⟨a.tr, acc, a.nx⟩ ∧ Vn st st' F2 ∧ Qt st st' := by
 have wf := hD.wf;have hpk := wh wf hk; have hp64 := JL wf.tr; have hps := wf.pos; have hmo := wf.most; have hln := wf.len; have hen : a.n = a.acc.length := rfl; have htr := wf.tr; have hp0 : 0 < 2 ^ a.tr := Nat.two_pow_pos _;have B := Ql.start hf;refine Jv Tryz.func246 Tryz.ntmps246 fun T K => ?_;have M := B.mem;refine Qb 4 K M fun _ K => ?_;refine oQ K M (Rt M.fresh (hD.q M.qt) ((k : Nat) : Int)) rfl rfl fun _ _ K M => ?_;refine Qb 1 K M fun _ K => ?_;refine kW K rfl (fun h13 => ?_) fun h13 => ?_
 · exfalso; omega
 refine Qb 1 K M fun _ K => ?_;replace B := B.step M;obtain ⟨v15, st15, ev15, nau15, q15⟩ := H3 B.fresh (hD.q B.qt);refine p1 K (Qf rfl ev15) fun _ K => ?_;obtain ⟨_, kn, vs, _, Fn, rfl, hAa, B⟩ := B.He q15 nau15;obtain ⟨ca, ma, rfl, rfl⟩ := Acc.wv (f := AV.bool) (L := a.acc) hAa Qd;have hnc : Qw kn = true := (B.at_ (k := 0) rfl).rd.cell;replace B := B.cast (M' := [(ca, ma, (a.acc.map AV.bool))]) Qx;have M := B.mem;refine au 1 K M ?_;intro c6 _ _ K _ M;refine Uh (k := 0) K M rfl rfl rfl Xh rfl (Qa rfl (Qa rfl (Qa ((B.step M).at_ (k := 0) rfl).rd.cell QL))) rfl fun _ M => ?_;refine Qb 1 K M fun _ K => ?_;refine Je (fun mm1 T st9 => ∃ (cur : List Bool) (more : Bool), mm1 = Gs cur more ∧ QH [(1, iN k), (4, .nilp), (5, iZ 0), (6, .ptr c6 0 0), (7, .bool more)] T ∧ Ql st Ei st9 [(c6, 0, [iZ (a.tr : Nat), .sl ca ma 0 a.acc.length 1, kn]), (ca, ma, (cur.map AV.bool))] [Oc Fn kn vs a.nx] ∧ I5 a k cur ∧ (more = false → ∀ s, s < a.n → RZ a k cur s)) (fun mm1 T st9 hI => ?_) _ _ _ ⟨_, true, rfl, (K.sub rfl), (B.step M).less (.refl _), (I5.start a k), (fun h => by cases h)⟩;obtain ⟨cur, more, rfl, K, B, hinv, hsh⟩ := hI;have M := B.mem;have hcl1 := hinv.len;refine Qb 1 K M fun _ K => ?_;refine UJ K rfl (fun h16 => ?_) fun h16 => ?_
 · have hb16 := h16;refine Qb 2 K M fun _ K => ?_;refine p1 K (Qi rfl (M.load (k := 0) rfl (Qc QW rfl))) fun _ K => p1 K (Q0 UO rfl rfl ((B.step M).at_ (k := 0) rfl).len) fun _ K => ?_;refine Qb 1 K M fun _ K => ?_;refine Je (fun mm2 T st9 => ∃ (s : Nat) (cur2 : List Bool) (more2 : Bool), mm2 = a.nx.length - s ∧ QH [(1, iN k), (4, .nilp), (5, iZ 0), (6, .ptr c6 0 0), (7, .bool more2), (18, kn), (19, iZ (a.nx.length : Nat)), (20, iN s)] T ∧ Ql st Ei st9 [(c6, 0, [iZ (a.tr : Nat), .sl ca ma 0 a.acc.length 1, kn]), (ca, ma, (cur2.map AV.bool))] [Oc Fn kn vs a.nx] ∧ T7 a k cur cur2 more2 s ∧ s ≤ a.nx.length) (fun mm2 T st9 hI => ?_) _ _ _ ⟨0, _, _, rfl, (K.sub rfl), (B.step M).less (.refl _), (T7.start hinv), (Nat.zero_le _)⟩;obtain ⟨s, cur2, more2, rfl, K, B, hin, hsi⟩ := hI;have M := B.mem;have hcl2 := hin.inv.len;refine Qb 1 K M fun _ K => ?_;refine U8 K rfl (fun h21 => ?_) fun h21 => ?_
   · refine Qb 1 K M fun _ K => ?_;obtain ⟨s23, hi23⟩ := YL a.nx s Qd;obtain ⟨w23, hv23, hr23, hz23, hf23⟩ := ((B.step M).at_ (k := 0) rfl).vs.at_ _ _ hi23;have hw23 := wf.row s23 (List.mem_of_getElem? hi23);have hl23 : s23.length = 2 ^ a.tr := hw23.1;refine oI ((B.step M).at_ (k := 0) rfl).rd (by rw [List.getElem?_map, hv23]; rfl) K QK Jn rfl rfl rfl fun _ _ _ _ K => ?_;refine Qb 2 K M fun _ K => ?_;refine QT (l := [(0, 0), (1, 0), (2, 0), (3, 0), (4, 0), (5, 0), (6, 0), (7, 0), (8, 0), (9, 0), (10, 0), (11, 0), (12, 0), (13, 0), (14, 0), (15, 0), (16, 0), (17, 0), (18, 0), (19, 0), (20, 0), (21, 0), (22, 0), (23, 0), (24, 0), (25, 0)]) (by kernel_rfl) ?_;refine UT 3 K M fun _ K => ?_;obtain ⟨y28, hi28⟩ := YL cur2 s Qd;refine q1 rfl K (Qn (j := s) UI rfl rfl Qd) fun _ K => q1 rfl K (Qi rfl (M.load (k := 1) rfl (Qc Vt (Ie AV.bool hi28)))) fun _ K => q1 rfl K (jK rfl) fun _ K => ?_;refine dB rfl K (Q8 rfl) rfl rfl fun b31 _ e31 K => ?_;cases b31
     · replace e31 : (y28) = true := by simpa using e31
       refine Ci rfl K rfl rfl rfl rfl fun _ _ K => Ci rfl K rfl rfl rfl rfl fun _ _ K => Ci rfl K rfl rfl rfl rfl fun _ _ K => Ci rfl K rfl rfl rfl rfl fun _ _ K => Ci rfl K rfl rfl rfl rfl fun _ _ K => Ci rfl K rfl rfl rfl rfl fun _ _ K => Ci rfl K rfl rfl rfl rfl fun _ _ K => Ci rfl K rfl rfl rfl rfl fun _ _ K => ?_;refine B8 rfl K rfl rfl rfl fun _ _ K => ?_;refine B8 rfl K rfl rfl rfl fun _ _ K => ?_;refine B8 rfl K rfl rfl rfl fun _ _ K => ?_;refine B8 rfl K rfl rfl rfl fun _ _ K => ?_;refine B8 rfl K rfl rfl rfl fun _ _ K => ?_;refine B8 rfl K rfl rfl rfl fun _ _ K => ?_;refine B8 rfl K rfl rfl rfl fun _ _ K => ?_;refine B8 rfl K rfl rfl rfl fun _ _ K => ?_;refine B8 rfl K rfl rfl rfl fun _ _ K => ?_;refine Ci rfl K rfl rfl rfl rfl fun _ _ K => ?_;refine UT 1 K M fun _ K => ?_;refine Jd ?_;show W _ _ _ _ _ _ _;refine Qb 3 K M fun _ K => ?_
       have hcin := hin.keep (show RZ a k cur2 s by
         first
         | exact fun _ => by rw [ZU hi28]; exact e31
         | (intro hh
            rcases hh with hh | hh
            · rw [UG hi23 hi35, ZU hi37] at hh; simp_all [Qv, Qq]
            · rw [UG hi23 hi45, ZU hi47] at hh; simp_all [Qv, Qq]))
       exact ⟨_, Qd, s + 1, cur2, more2, rfl, (K.sub rfl), (B.step M).less (.refl _), hcin, Qd⟩
     replace e31 : (y28) = false := by simpa using e31
     refine UT 3 K M fun _ K => ?_;obtain ⟨y35, hi35⟩ := YL s23 0 Qd;have hb35 := hw23.2 y35 (List.mem_of_getElem? hi35);obtain ⟨x35, m35, f35, q35, _, la35, lo35, lp35⟩ := hr23.load (i := 0) (cs := _) (JG hi35);refine dg rfl K rfl rfl (Qn (j := 0) QD (congrArg some q35) rfl (by rw [Qy]; omega)) rfl rfl fun _ K => dg rfl K rfl rfl (Qi rfl (lo35 _ 0 _ Qs rfl)) rfl rfl fun _ K => ?_;obtain ⟨y37, hi37⟩ := YL cur2 ((y35).toNat) Qd;refine dg rfl K rfl rfl (Qn (j := (y35).toNat) UI rfl (congrArg (fun z => some (iZ z)) (by omega : _ = (((y35).toNat : Nat) : Int))) Qd) rfl rfl fun _ K => dg rfl K rfl rfl (Qi rfl (M.load (k := 1) rfl (Qc Vt (Ie AV.bool hi37)))) rfl rfl fun _ K => ?_;refine nG rfl K rfl rfl (Q8 rfl) rfl rfl fun b39 _ e39 K => ?_;cases b39
     · refine UT 4 K M fun _ K => ?_;refine dg rfl K rfl rfl (ZX (n := k) rfl rfl Qd) rfl rfl fun _ K => ?_;obtain ⟨y45, hi45⟩ := YL s23 (2 ^ k) Qd;have hb45 := hw23.2 y45 (List.mem_of_getElem? hi45);obtain ⟨x45, m45, f45, q45, _, la45, lo45, lp45⟩ := hr23.load (i := 2 ^ k) (cs := _) (JG hi45);refine dg rfl K rfl rfl (Qn (j := 2 ^ k) QD (congrArg some q45) rfl (by rw [Qy]; omega)) rfl rfl fun _ K => dg rfl K rfl rfl (Qi rfl (lo45 _ 0 _ Qs rfl)) rfl rfl fun _ K => ?_;obtain ⟨y47, hi47⟩ := YL cur2 ((y45).toNat) Qd;refine dg rfl K rfl rfl (Qn (j := (y45).toNat) UI rfl (congrArg (fun z => some (iZ z)) (by omega : _ = (((y45).toNat : Nat) : Int))) Qd) rfl rfl fun _ K => dg rfl K rfl rfl (Qi rfl (M.load (k := 1) rfl (Qc Vt (Ie AV.bool hi47)))) rfl rfl fun _ K => ?_;refine UT 2 K M fun _ K => ?_;refine Jd ?_;show W _ _ _ _ _ _ _;refine UJ K rfl (fun h50 => ?_) fun h50 => ?_
       · have hb50 := h50;refine Qb 3 K M fun _ K => ?_;obtain ⟨y54, hi54⟩ := YL cur2 s Qd;refine p1 K (Qn (j := s) UI rfl rfl Qd) fun _ K => ?_;refine Jk (k := 1) K M rfl rfl rfl Ae rfl (E1 AV.bool true Qd) fun _ M => ?_;refine Qb 3 K M fun _ K => ?_
         have hcin := T7.set hin (show s < a.n by omega) (wf.Ya (show s < a.n by omega) hp0) (wf.Ya (show s < a.n by omega) hpk) (by rw [hi28, e31]) (by
           first
           | exact .inl (by rw [UG hi23 hi35, ZU hi37]; assumption)
           | exact .inr (by rw [UG hi23 hi45, ZU hi47]; simp_all [Qv, Qq]))
         exact ⟨_, Qd, s + 1, (cur2.set s true), true, rfl, (K.sub rfl), (B.step M).less (.refl _), hcin, Qd⟩
       have hb50 := h50;refine Qb 2 K M fun _ K => ?_
       have hcin := hin.keep (show RZ a k cur2 s by
         first
         | exact fun _ => by rw [ZU hi28]; exact e31
         | (intro hh
            rcases hh with hh | hh
            · rw [UG hi23 hi35, ZU hi37] at hh; simp_all [Qv, Qq]
            · rw [UG hi23 hi45, ZU hi47] at hh; simp_all [Qv, Qq]))
       exact ⟨_, Qd, s + 1, cur2, more2, rfl, (K.sub rfl), (B.step M).less (.refl _), hcin, Qd⟩
     refine Ci rfl K rfl rfl rfl rfl fun _ _ K => Ci rfl K rfl rfl rfl rfl fun _ _ K => Ci rfl K rfl rfl rfl rfl fun _ _ K => Ci rfl K rfl rfl rfl rfl fun _ _ K => Ci rfl K rfl rfl rfl rfl fun _ _ K => Ci rfl K rfl rfl rfl rfl fun _ _ K => Ci rfl K rfl rfl rfl rfl fun _ _ K => Ci rfl K rfl rfl rfl rfl fun _ _ K => Ci rfl K rfl rfl rfl rfl fun _ _ K => ?_;refine UT 2 K M fun _ K => ?_;refine Jd ?_;show W _ _ _ _ _ _ _;refine Qb 4 K M fun _ K => ?_;obtain ⟨y54, hi54⟩ := YL cur2 s Qd;refine p1 K (Qn (j := s) UI rfl rfl Qd) fun _ K => ?_;refine Jk (k := 1) K M rfl rfl rfl Ae rfl (E1 AV.bool true Qd) fun _ M => ?_;refine Qb 3 K M fun _ K => ?_
     have hcin := T7.set hin (show s < a.n by omega) (wf.Ya (show s < a.n by omega) hp0) (wf.Ya (show s < a.n by omega) hpk) (by rw [hi28, e31]) (by
       first
       | exact .inl (by rw [UG hi23 hi35, ZU hi37]; assumption)
       | exact .inr (by rw [UG hi23 hi45, ZU hi47]; simp_all [Qv, Qq]))
     exact ⟨_, Qd, s + 1, (cur2.set s true), true, rfl, (K.sub rfl), (B.step M).less (.refl _), hcin, Qd⟩
   refine QM ?_
   have hmeas : Gs cur2 more2 < Gs cur more := by rw [show more = true from hb16]; exact hin.l9
   have hsh2 : more2 = false → ∀ s, s < a.n → RZ a k cur2 s := fun e t ht => (hin.no e).1 ▸ ((hin.no e).2 t Qd);exact ⟨_, hmeas, _, _, rfl, (K.sub rfl), (B.step M).less (.refl _), hin.inv, hsh2⟩
 have hb16 := h16;refine QM ?_;show W _ _ _ _ _ _ _;refine Qb 1 K M fun _ K => ?_;replace B := B.step M;have hca := hinv.done wf hpk (hsh (by simpa using hb16));have wf2 := wf.zH (acc := cur) hca.len;obtain ⟨v57, st57, ev57, dp2, F2, rfl, hD2, nf2, q57⟩ := Wz (a := ⟨a.tr, cur, a.nx⟩) B.fresh wf2 (Qu.ly (f := AV.bool) (L := cur) (B.row ca ma _ Qx) Qd Qd) (B.at_ (k := 0) rfl).r;refine p1 K (Qf rfl ev57) fun _ K => ?_;replace B := B.new (o := EJ F2 dp2 ⟨a.tr, cur, a.nx⟩) q57 hD2.at_ nf2;have M := B.mem;refine Qb 4 K M ?_;exact ⟨dp2, F2, cur, rfl, hca, B.RE (k := 0) rfl, (B.step M).ve (k := 0) rfl, (B.step M).qt⟩

end
section
variable {F:Fp} {L:List (List Int)} {cp l mp xp:Nat} {st:St}

def FX(F:Fp)(cp:Nat)(L:List (List Int)):Ob:=⟨F,fun h=>Zk h F cp L,fun _ _ e H=>H.frame e⟩
structure NH(h:Hp)(F:Fp)(xp cp mp:Nat)(L:List (List Int))(l:Nat):Prop where
 pool:Zk h F cp L
 met:Qu h mp 0 [.int .i64 (l:Nat),.bool false]
 row:Qu h xp 0 [.ptr cp 0 0,.ptr mp 0 0]
 d1: ¬F mp
 d2: ¬F xp
 d3:xp≠mp
def Ch(F:Fp)(xp mp:Nat):Fp:=fun c=>F c∨c=mp∨c=xp
theorem NH.frame{h h':Hp}{F:Fp}{xp cp mp:Nat}{L:List (List Int)}{l:Nat}(e: ∀c,Ch F xp mp c→h' c=h c)(H:NH h F xp cp mp L l):NH h' F xp cp mp L l:=
 ⟨H.pool.frame fun c hc=>e c (.inl hc),H.met.frame (e mp (.inr (.inl rfl))),H.row.frame (e xp (.inr (.inr rfl))),H.d1,H.d2,H.d3⟩
def aF(F:Fp)(xp cp mp:Nat)(L:List (List Int))(l:Nat):Ob:=⟨Ch F xp mp,fun h=>NH h F xp cp mp L l,fun _ _ e H=>H.frame e⟩
theorem Ql.xf(hf:Qh st)(H:NH st.h.get F xp cp mp L l)(hi: ∀c,Ch F xp mp c→c<st.n):Ql st (Ch F xp mp) st [(xp,0,[.ptr cp 0 0,.ptr mp 0 0])] [FX F cp L,YH mp l false]:=by
 refine⟨hf,Nat.le_refl _,fun c m x h=>?_,by simp,fun c m x h=>?_,fun o h=>?_,fun o h c hc=>?_,?_,fun o h c m x hm hc=>?_,fun _ _ _=>rfl⟩
 ·simp at h;obtain⟨rfl,rfl,rfl⟩:=h;exact H.row
 ·simp at h;obtain⟨rfl,rfl,rfl⟩:=h;exact .inr (.inr (.inr rfl))
 ·simp at h;rcases h with rfl|rfl
  ·exact H.pool
  ·exact H.met
 ·simp at h;rcases h with rfl|rfl
  ·exact⟨hi c (.inl hc),.inr (.inl hc)⟩
  ·exact⟨hi c (.inr (.inl hc)),.inr (.inr (.inl hc))⟩
 ·refine List.pairwise_cons.2 ⟨fun o h c h1 h2=>?_,List.pairwise_singleton _ _⟩;rw[List.mem_singleton.1 h]at h2;exact H.d1 ((show c=mp from h2)▸h1)
 ·simp at hm;obtain⟨rfl,rfl,rfl⟩:=hm
  simp at h;rcases h with rfl|rfl
  ·exact H.d2 hc
  ·exact H.d3 hc
theorem Ql.y5{st':St}{F':Fp}(B:Ql st (Ch F xp mp) st' [(xp,0,[.ptr cp 0 0,.ptr mp 0 0])] [FX F' cp L,YH mp l false]): ∃F',NH st'.h.get F' xp cp mp L l∧EV st st' (Ch F xp mp) (Ch F' xp mp)∧YA (Ch F xp mp) st st':=by
 have hp:=(List.pairwise_cons.1 B.dj).1 (YH mp l false) Qx;refine⟨F',⟨B.at_ (k:=0) rfl,B.at_ (k:=1) rfl,B.row _ _ _ (List.mem_singleton.2 rfl),fun h=>hp mp h rfl,B.djM (FX F' cp L) Qx xp 0 _ (List.mem_singleton.2 rfl),fun e=>B.djM (YH mp l false) Qx xp 0 _ (List.mem_singleton.2 rfl) e⟩,fun c hc=>?_,B.U7⟩;rcases hc with hc|hc|hc
 ·exact⟨(B.Rm (k:=0) rfl c hc).symm,B.VM (k:=0) rfl c hc⟩
 ·exact⟨(B.Rm (k:=1) rfl c hc).symm,B.VM (k:=1) rfl c hc⟩
 ·subst hc;exact⟨.inl (.inr (.inr rfl)),(B.row c 0 _ (List.mem_singleton.2 rfl)).lt B.fresh⟩
theorem LI(hf:Qh st)(hr:Qu st.h.get mp 0 [.int .i64 (l:Nat),.bool false])(hl:l≤9223372036854775807)(n:Nat)(hn:n≤l): ∃v st',QV 157 [.ptr mp 0 0,.int .i64 (n:Nat)] st v st'∧v=.bool true∧(YH mp (l-n) false).H st'.h.get∧YA (fun c=>c=mp) st st':=by
 obtain⟨v,st',h1,h2,h3,h4⟩:=OU hf hr hl n Qd;exact⟨v,st',h1,by rw[h2,vc hn],by rw[Dl hn]at h3;exact h3,h4⟩
theorem jF(hf:Qh st){a:Au}(wf:Xu a){kn:AV}{ls:List (List AV)}(hN:qp st.h.get a.nx kn ls){q:List Int}{kq:AV}(hq:Jg st.h.get [] 1 (zC q) kq)(hqs: ∀z∈q,0≤z∧z<((a.n:Nat):Int))(hql:q.length≤400){c k:Nat}(hk:k<a.tr)(hc:c<2^(a.tr-1)): ∃v st',QV 251 [kn,kq,iN c,iN k] st v st'∧ ∃kr A,v=kr∧ET st.n A kr (UM a k q c)∧(∀c' m l,(c',m,l)∈A→Qu st'.h.get c' m l)∧Qt st st':=by
 have htr:=wf.tr;have hlen:=wf.len;have hc62:c≤64:=by have:=JL (T:=a.tr-1) Qd;omega
 have hu0:=PX hk hc (u:=0) Q9;have hu1:=PX hk hc (u:=1) Q9;have hp6:=JL htr;have hnc:=hN.r.cell;have hqc:=hq.cell;have hlo:=Bt k c;have hpk:=wh wf hk;have hcm:c % 2^k≤c:=Nat.mod_le _ _
 have hh0:c/2^k *2^(k+1)≤Ed k c 0:=by unfold Ed;omega
 have hh1:c/2^k *2^(k+1)≤9223372036854775807:=by omega
 refine Jv Tryz.func251 Tryz.ntmps251 fun T K=>?_;have M:=Mem.start hf;refine Qb 3 K M fun _ K=>?_;refine p1 K (ZX (n:=k) rfl rfl Qd) fun _ K=>?_;refine Qb 1 K M fun _ K=>?_;refine p1 K (xG (k:=k) (c:=c) rfl rfl Qd Qd) fun _ K=>?_;refine Qb 5 K M fun _ K=>?_;refine p1 K (eR (k:=k) (c:=c) rfl rfl Qd) fun _ K=>p1 K (Rb (Sy k c) rfl rfl Qd hh1) fun _ K=>?_;refine Qb 3 K M fun _ K=>?_;refine p1 K (Q0 Jm rfl rfl (hq.len.trans (congrArg some (Qy _)))) fun _ K=>?_;refine Qb 1 K M fun _ K=>?_;refine Je (fun mm1 T st9=> ∃(i:Nat) (ko:AV) (A:Uc),mm1=q.length-i∧QH [(0,kn),(3,iN k),(8,.nils),(10,iZ (Ed k c 0:Nat)),(11,ko),(25,kq),(26,iZ (q.length:Nat)),(27,iN i)] T∧Mem st.h.get st.n [] st9 (A++[])∧i≤q.length∧Acc st.n 1 A ko (zC (Hc a k c (q.take i)))) (fun mm1 T st9 hI=>?_) _ _ _ ⟨0,.nils,[],rfl,(K.sub rfl),M.less (.refl _),(Nat.zero_le _),(by rw[List.take_zero];exact .none)⟩;obtain⟨i,ko,A,rfl,K,M,hiq,hA⟩:=hI;refine Qb 1 K M fun _ K=>?_;refine U8 K rfl (fun h28=>?_) fun h28=>?_
 ·refine Qb 0 K M fun _ K=>?_;obtain⟨y29,hi29⟩:=YL q i Qd;have hb29:=hqs y29 (List.mem_of_getElem? hi29);refine oI (Jg.mem M hq Qx) (JG hi29) K QD Qs rfl rfl rfl fun _ _ _ _ K=>?_;refine Qb 1 K M fun _ K=>?_;refine QT (l:=[(0,0),(1,0),(2,0),(3,0),(4,0),(5,0),(6,0),(7,0),(8,0),(9,0),(10,0),(11,0),(12,0),(13,0),(14,0),(15,0),(16,0),(17,0),(18,0),(19,0),(20,0)]) (by kernel_rfl) ?_;refine UT 3 K M fun _ K=>?_;obtain⟨s34,hi34⟩:=YL a.nx ((y29).toNat) Qd;obtain⟨_,hc34,w34,rfl,hr34,hz34⟩:=hN.at_ _ _ hi34;have hw34:=wf.row s34 (List.mem_of_getElem? hi34);have hl34:s34.length=2^a.tr:=hw34.1;obtain⟨x34,m34,f34,q34,_,la34,lo34,lp34⟩:=(Jg.mem M hN.r Qx).load (i:=(y29).toNat) (cs:=_) hc34;refine q1 rfl K (Qn (j:=(y29).toNat) QK (congrArg some q34) (congrArg (fun z=>some (iZ z)) (by omega:_=(((y29).toNat:Nat):Int))) (by rw[hN.ln];omega)) fun _ K=>q1 rfl K (Qi rfl (lo34 _ 0 _ Jn rfl)) fun _ K=>q1 rfl K (Q8 rfl) fun _ K=>?_;obtain⟨y37,hi37⟩:=YL s34 ((Ed k c 0)) Qd;have hb37:=hw34.2 y37 (List.mem_of_getElem? hi37);refine dI rfl rfl (Jg.mem M hr34 Qx) (JG hi37) K QD Qs rfl rfl rfl fun _ _ _ _ K=>?_;refine UT 2 K M fun _ K=>?_;obtain⟨_,hc41,w41,rfl,hr41,hz41⟩:=hN.at_ _ _ hi34;obtain⟨x41,m41,f41,q41,_,la41,lo41,lp41⟩:=(Jg.mem M hN.r Qx).load (i:=(y29).toNat) (cs:=_) hc41;refine q1 rfl K (Qn (j:=(y29).toNat) QK (congrArg some q41) (congrArg (fun z=>some (iZ z)) (by omega:_=(((y29).toNat:Nat):Int))) (by rw[hN.ln];omega)) fun _ K=>q1 rfl K (Qi rfl (lo41 _ 0 _ Jn rfl)) fun _ K=>?_;refine UT 2 K M fun _ K=>?_;refine q1 rfl K (ZX (n:=k) rfl rfl Qd) fun _ K=>q1 rfl K (Rb (xl k c) rfl rfl Qd Qd) fun _ K=>?_;obtain⟨y47,hi47⟩:=YL s34 ((Ed k c 1)) Qd;have hb47:=hw34.2 y47 (List.mem_of_getElem? hi47);refine dI rfl rfl (Jg.mem M hr41 Qx) (JG hi47) K QD Qs rfl rfl rfl fun _ _ _ _ K=>?_;refine Eo rfl K M QR HJ rfl rfl rfl rfl rfl fun c49 _ _ K M=>?_;refine zL (L:=[(c49,0,[iZ y37,iZ y47])]) (B:=[]) (ls2:=[[iZ y37],[iZ y47]]) (Y:=[]) rfl K M hA QR rfl rfl (Jg.own (ls:=[[iZ y37],[iZ y47]]) (Mem.Ud (k:=0) M rfl) Qx Qx Qx) Qx (by simp only[Qy,OR,List.length_take,List.length_cons,List.length_nil];omega) rfl fun ks50 A50 _ _ K hA50 M=>?_;refine q1 rfl K (Uu rfl) fun _ K=>Jd ?_;show W _ _ _ _ _ _ _;refine Qb 2 K M fun _ K=>?_;exact⟨_,Qd,i+1,ks50,A50,rfl,(K.sub rfl),M.less (.cons _ (.refl _)),Qd,(by rw[Rg hi29,UG hi34 hi37,UG hi34 hi47,JJ,Int.toNat_of_nonneg hb37.1,Int.toNat_of_nonneg hb47.1];exact hA50)⟩
 refine QM ?_;show W _ _ _ _ _ _ _;refine Qb 1 K M fun _ K=>?_;rw[List.take_of_length_le Qd]at hA;have hln:=OR a k c q;obtain⟨v53,st53,A12,ev53,rfl,M7,hA12⟩:=OI (L:=[]) (B:=[]) M hA Qd;refine p1 K (Qf rfl ev53) fun _ K=>?_;replace M:=M7;refine Qb 1 K M fun _ K=>?_;obtain⟨v55,st55,A14,ev55,hA14,M9⟩:=Gn (L:=[]) (B:=[]) M hA12 (by rw[JR];omega);rw[Kz]at hA14;refine p1 K (Qf rfl ev55) fun _ K=>?_;replace M:=M9;refine Qb 1 K M ?_;refine⟨_,A14,rfl,hA14,fun c' m l h=>M.row c' m l (by simp[h]),M.qt⟩

theorem jG(hf:Qh st)(H:NH st.h.get F xp cp mp L l)(hi: ∀c,Ch F xp mp c→c<st.n)(hL:L.length≤400)(hl1:1≤l)(hl:l≤9223372036854775807){q:List Int}{kq:AV}(hq:Jg st.h.get [] 1 (zC q) kq)(hX: ∀c m o n y,kq=.sl c m o n y→ ¬Ch F xp mp c)(hz:HC q)(hql:q.length≤100000)(hs:V6 q): ∃v st',QV 248 [.ptr xp 0 0,kq] st v st'∧v=.tup [iZ (Mg L q:Nat),.bool (decide (((AE L q).length:Int)≤400))]∧ ∃F',NH st'.h.get F' xp cp mp (AE L q) (l-((AE L q).length-L.length))∧EV st st' (Ch F xp mp) (Ch F' xp mp)∧YA (Ch F xp mp) st st':=by
 have B:=Ql.xf hf H hi;have hof:=OO (L:=L) hs;have hqc:=hq.cell;refine Jv Tryz.func248 Tryz.ntmps248 fun T K=>?_;have M:=B.mem;refine Qb 5 K M fun _ K=>?_;refine p1 K (Qi rfl (M.load (k:=0) rfl (Qc Yx rfl))) fun _ K=>?_;replace B:=B.step M;obtain⟨v12,st12,ev12,rfl,q12⟩:=KL (L:=L) B.fresh (B.at_ (k:=0) rfl);refine p1 K (Qf rfl ev12) fun _ K=>?_;replace B:=B.quiet q12;have M:=B.mem;refine Qb 4 K M fun _ K=>?_;refine p1 K (Qi rfl (M.load (k:=0) rfl (Qc Yx rfl))) fun _ K=>?_;refine Qb 1 K M fun _ K=>?_;replace B:=B.step M;obtain⟨v18,st18,ev18,rfl,hP2,Q2⟩:=aa B.fresh (B.at_ (k:=0) rfl) (B.VM (k:=0) rfl) Qd (B.rd hf hq hX) hz hql;refine p1 K (Qf rfl ev18) fun _ K=>?_;generalize hF2:(fun c=>F c∨_)=F2 at hP2;replace B:=B.call (k:=0) (o':=FX F2 cp (AE L q)) rfl Q2 hP2 (fun c hc=>by rw[show(FX F2 cp (AE L q)).F c=F2 c from rfl,←hF2]at hc;rcases hc with hc|hc;exact⟨.inl hc,Nat.lt_of_lt_of_le (B.VM (k:=0) rfl c hc) Q2.le⟩;exact⟨.inr hc.1,hc.2⟩);have M:=B.mem;refine Qb 4 K M fun _ K=>?_;refine U8 K rfl (fun h21=>?_) fun h21=>?_
 ·refine Qb 3 K M ?_;replace B:=B.step M;rcases hof with⟨a1,a2,a3⟩|⟨a1,a2,a3⟩
  ·have e8:(AE L q).length=L.length:=by rw[a2]
   refine⟨by rw[decide_eq_true (show((AE L q).length:Int)≤400 by omega)],?_⟩;rw[show l-((AE L q).length-L.length)=l by omega];exact B.y5
  ·exfalso;omega
 refine Qb 5 K M fun _ K=>?_;replace B:=B.step M;obtain⟨v28,st28,ev28,rfl,hm3,Q3⟩:=LI B.fresh (B.at_ (k:=1) rfl) hl 1 Qd;refine p1 K (Qf rfl ev28) fun _ K=>?_;replace B:=B.call (k:=1) (o':=YH mp (l-1) false) rfl Q3 hm3 (fun c hc=>⟨.inl hc,Nat.lt_of_lt_of_le (B.VM (k:=1) rfl c hc) Q3.le⟩);have M:=B.mem;refine Qb 4 K M fun _ K=>?_;refine pg K rfl rfl (Qi rfl (M.load (k:=0) rfl (Qc Yx rfl))) fun _ K=>?_;replace B:=B.step M;obtain⟨v34,st34,ev34,rfl,q34⟩:=KL (L:=(AE L q)) B.fresh (B.at_ (k:=0) rfl);refine pg K rfl rfl (Qf rfl ev34) fun _ K=>?_;replace B:=B.quiet q34;have M:=B.mem;refine Qb 4 K M ?_;replace B:=B.step M;rcases hof with⟨a1,a2,a3⟩|⟨a1,a2,a3⟩
 ·exfalso;omega
 ·have e8:(AE L q).length=L.length+1:=by rw[a2,List.length_append];rfl
  refine⟨rfl,?_⟩;rw[show l-((AE L q).length-L.length)=l-1 by omega];exact B.y5
end
end Go.Proofs.YtildagdnomiahaaGreatDoor
