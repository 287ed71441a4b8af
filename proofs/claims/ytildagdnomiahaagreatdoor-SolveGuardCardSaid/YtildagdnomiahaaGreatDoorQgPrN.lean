/-
  Closed by a track: the program's answer, the reference's.
-/
import Derived.Test.YtildagdnomiahaaGreatDoorQgOr
import Derived.Test.YtildagdnomiahaaGreatDoorQgLkP
set_option maxHeartbeats 8000000
set_option maxRecDepth 100000
set_option linter.unnecessarySimpa false
set_option linter.unusedSimpArgs false
set_option linter.unusedVariables false
namespace Go.Proofs.YtildagdnomiahaaGreatDoor
open Go Go.RowKit
section
variable {a:Au}

theorem ZP.jI(wf:ZP a){acc:List Bool}(h:acc.length=a.n):ZP ⟨a.tr,acc,a.nx⟩:=⟨wf.tr,by show 1≤acc.length;rw[h];exact wf.pos,by show acc.length≤400;rw[h];exact wf.most,by show a.nx.length=acc.length;rw[h];exact wf.len,fun r hr=>by show r.length=a.K∧ ∀z∈r,0≤z∧z<acc.length;rw[h];exact wf.row r hr⟩
theorem yV{k:Nat}(wf:ZP a)(hk:k<a.tr):2^k<2^a.tr:=Nat.pow_lt_pow_right Q8 hk

theorem DL{st:St}(hf:Qg st){F:Fp}{dp:Nat}(hD:JH st F dp a)(k:Int): ∃v st',QR 268 [.ptr dp 0 0,iZ k] st v st'∧v=.bool (decide (0≤k∧k<a.tr))∧Qt st st':=by
 refine Jq Tryz.func268 Tryz.ntmps268 fun T K=>?_;have M:=Mem.start hf;refine Qb 2 K M fun _ K=>?_;refine p1 K (uA J2 rfl rfl) fun _ K=>?_;refine Qb 4 K M fun _ K=>?_;refine Uv K rfl (fun _ e11 K=>?_) fun _ e11 K=>?_
 · refine Qb 6 K M ?_;refine⟨congrArg AV.bool ?_,M.qt⟩
   first
    |exact(decide_eq_decide.2 ⟨fun h=>⟨by omega,h⟩,fun h=>h.2⟩)
    |exact(decide_eq_false Qe).symm
 refine Qb 2 K M fun _ K=>?_;obtain⟨v14,st14,ev14,rfl,q14⟩:=YQ M.fresh (hD.q M.qt);refine pg K rfl rfl (Qf rfl ev14) fun _ K=>?_;replace M:=M.quiet q14;refine Qb 3 K M ?_;refine⟨congrArg AV.bool ?_,M.qt⟩
 first
  |exact(decide_eq_decide.2 ⟨fun h=>⟨by omega,h⟩,fun h=>h.2⟩)
  |exact(decide_eq_false Qe).symm

theorem Sb {st : St} (hf : Qg st) {F : Fp} {dp : Nat} (hD : JH st F dp a) {k : Nat} (hk : k < a.tr) : ∃ v st', QR 246 [.ptr dp 0 0, iN k] st v st' ∧ ∃ dp2 F2 acc, v = .tup [.ptr dp2 0 0, iZ 0] ∧ ES a k acc ∧ JH st' F2 dp2 ⟨a.tr, acc, a.nx⟩ ∧ XE st st' F2 ∧ Qt st st' := by
 have wf := hD.wf;have hpk := yV wf hk; have hp64 := JD wf.tr; have hps := wf.pos; have hmo := wf.most; have hln := wf.len; have hen : a.n = a.acc.length := rfl; have htr := wf.tr; have hp0 : 0 < 2 ^ a.tr := Nat.two_pow_pos _;have B := Qj.start hf;refine Jq Tryz.func246 Tryz.ntmps246 fun T K => ?_;have M := B.mem;refine Qb 4 K M fun _ K => ?_;refine oQ K M (DL M.fresh (hD.q M.qt) ((k : Nat) : Int)) rfl rfl fun _ _ K M => ?_;refine Qb 1 K M fun _ K => ?_;refine wO K rfl (fun h13 => ?_) fun h13 => ?_
 · exfalso; omega
 refine Qb 1 K M fun _ K => ?_;replace B := B.step M;obtain ⟨v15, st15, ev15, nau15, q15⟩ := Fz B.fresh (hD.q B.qt);refine p1 K (Qf rfl ev15) fun _ K => ?_;obtain ⟨_, kn, vs, _, Fn, rfl, hAa, B⟩ := B.AZ q15 nau15;obtain ⟨ca, ma, rfl, rfl⟩ := Acc.ze (f := AV.bool) (L := a.acc) hAa Qe;have hnc : Qu kn = true := (B.at_ (k := 0) rfl).rd.cell;replace B := B.cast (M' := [(ca, ma, (a.acc.map AV.bool))]) Qx;have M := B.mem;refine au 1 K M ?_;intro c6 _ _ K _ M;refine J9 (k := 0) K M rfl rfl rfl ZB rfl (Qa rfl (Qa rfl (Qa ((B.step M).at_ (k := 0) rfl).rd.cell Q9))) rfl fun _ M => ?_;refine Qb 1 K M fun _ K => ?_;refine QV (fun mm1 T st9 => ∃ (cur : List Bool) (more : Bool), mm1 = NY cur more ∧ QE [(1, iN k), (4, .nilp), (5, iZ 0), (6, .ptr c6 0 0), (7, .bool more)] T ∧ Qj st WA st9 [(c6, 0, [iZ (a.tr : Nat), .sl ca ma 0 a.acc.length 1, kn]), (ca, ma, (cur.map AV.bool))] [LQ Fn kn vs a.nx] ∧ Hw a k cur ∧ (more = false → ∀ s, s < a.n → Pz a k cur s)) (fun mm1 T st9 hI => ?_) _ _ _ ⟨_, true, rfl, (K.sub rfl), (B.step M).less (.refl _), (Hw.start a k), (fun h => by cases h)⟩;obtain ⟨cur, more, rfl, K, B, hinv, hsh⟩ := hI;have M := B.mem;have hcl1 := hinv.len;refine Qb 1 K M fun _ K => ?_;refine YU K rfl (fun h16 => ?_) fun h16 => ?_
 · have hb16 := h16;refine Qb 2 K M fun _ K => ?_;refine p1 K (Qh rfl (M.load (k := 0) rfl (Qc QP rfl))) fun _ K => p1 K (Q4 UC rfl rfl ((B.step M).at_ (k := 0) rfl).len) fun _ K => ?_;refine Qb 1 K M fun _ K => ?_;refine QV (fun mm2 T st9 => ∃ (s : Nat) (cur2 : List Bool) (more2 : Bool), mm2 = a.nx.length - s ∧ QE [(1, iN k), (4, .nilp), (5, iZ 0), (6, .ptr c6 0 0), (7, .bool more2), (18, kn), (19, iZ (a.nx.length : Nat)), (20, iN s)] T ∧ Qj st WA st9 [(c6, 0, [iZ (a.tr : Nat), .sl ca ma 0 a.acc.length 1, kn]), (ca, ma, (cur2.map AV.bool))] [LQ Fn kn vs a.nx] ∧ RB a k cur cur2 more2 s ∧ s ≤ a.nx.length) (fun mm2 T st9 hI => ?_) _ _ _ ⟨0, _, _, rfl, (K.sub rfl), (B.step M).less (.refl _), (RB.start hinv), (Nat.zero_le _)⟩;obtain ⟨s, cur2, more2, rfl, K, B, hin, hsi⟩ := hI;have M := B.mem;have hcl2 := hin.inv.len;refine Qb 1 K M fun _ K => ?_;refine Uk K rfl (fun h21 => ?_) fun h21 => ?_
   · refine Qb 1 K M fun _ K => ?_;obtain ⟨s23, hi23⟩ := YP a.nx s Qe;obtain ⟨w23, hv23, hr23, hz23, hf23⟩ := ((B.step M).at_ (k := 0) rfl).vs.at_ _ _ hi23;have hw23 := wf.row s23 (List.mem_of_getElem? hi23);have hl23 : s23.length = 2 ^ a.tr := hw23.1;refine oI ((B.step M).at_ (k := 0) rfl).rd (by rw [List.getElem?_map, hv23]; rfl) K J5 Jg rfl rfl rfl fun _ _ _ _ K => ?_;refine Qb 2 K M fun _ K => ?_;refine QQ (l := [(0, 0), (1, 0), (2, 0), (3, 0), (4, 0), (5, 0), (6, 0), (7, 0), (8, 0), (9, 0), (10, 0), (11, 0), (12, 0), (13, 0), (14, 0), (15, 0), (16, 0), (17, 0), (18, 0), (19, 0), (20, 0), (21, 0), (22, 0), (23, 0), (24, 0), (25, 0)]) (by kernel_rfl) ?_;refine Yd 3 K M fun _ K => ?_;obtain ⟨y28, hi28⟩ := YP cur2 s Qe;refine q1 rfl K (Qs (j := s) U5 rfl rfl Qe) fun _ K => q1 rfl K (Qh rfl (M.load (k := 1) rfl (Qc XJ (FX AV.bool hi28)))) fun _ K => q1 rfl K (D0 rfl) fun _ K => ?_;refine dB rfl K (QA rfl) rfl rfl fun b31 _ e31 K => ?_;cases b31
     · replace e31 : (y28) = true := by simpa using e31
       refine G7 rfl K rfl rfl rfl rfl fun _ _ K => G7 rfl K rfl rfl rfl rfl fun _ _ K => G7 rfl K rfl rfl rfl rfl fun _ _ K => G7 rfl K rfl rfl rfl rfl fun _ _ K => G7 rfl K rfl rfl rfl rfl fun _ _ K => G7 rfl K rfl rfl rfl rfl fun _ _ K => G7 rfl K rfl rfl rfl rfl fun _ _ K => G7 rfl K rfl rfl rfl rfl fun _ _ K => ?_;refine Gh rfl K rfl rfl rfl fun _ _ K => ?_;refine Gh rfl K rfl rfl rfl fun _ _ K => ?_;refine Gh rfl K rfl rfl rfl fun _ _ K => ?_;refine Gh rfl K rfl rfl rfl fun _ _ K => ?_;refine Gh rfl K rfl rfl rfl fun _ _ K => ?_;refine Gh rfl K rfl rfl rfl fun _ _ K => ?_;refine Gh rfl K rfl rfl rfl fun _ _ K => ?_;refine Gh rfl K rfl rfl rfl fun _ _ K => ?_;refine Gh rfl K rfl rfl rfl fun _ _ K => ?_;refine G7 rfl K rfl rfl rfl rfl fun _ _ K => ?_;refine Yd 1 K M fun _ K => ?_;refine Jf ?_;show W _ _ _ _ _ _ _;refine Qb 3 K M fun _ K => ?_
       have hcin := hin.keep (show Pz a k cur2 s by
         first
         | exact fun _ => by rw [Zz hi28]; exact e31
         | (intro hh
            rcases hh with hh | hh
            · rw [U3 hi23 hi35, Zz hi37] at hh; simp_all [Qv, Qr]
            · rw [U3 hi23 hi45, Zz hi47] at hh; simp_all [Qv, Qr]))
       exact ⟨_, Qe, s + 1, cur2, more2, rfl, (K.sub rfl), (B.step M).less (.refl _), hcin, Qe⟩
     replace e31 : (y28) = false := by simpa using e31
     refine Yd 3 K M fun _ K => ?_;obtain ⟨y35, hi35⟩ := YP s23 0 Qe;have hb35 := hw23.2 y35 (List.mem_of_getElem? hi35);obtain ⟨x35, m35, f35, q35, _, la35, lo35, lp35⟩ := hr23.load (i := 0) (cs := _) (JA hi35);refine dg rfl K rfl rfl (Qs (j := 0) QG (congrArg some q35) rfl (by rw [Q0]; omega)) rfl rfl fun _ K => dg rfl K rfl rfl (Qh rfl (lo35 _ 0 _ Qq rfl)) rfl rfl fun _ K => ?_;obtain ⟨y37, hi37⟩ := YP cur2 ((y35).toNat) Qe;refine dg rfl K rfl rfl (Qs (j := (y35).toNat) U5 rfl (congrArg (fun z => some (iZ z)) (by omega : _ = (((y35).toNat : Nat) : Int))) Qe) rfl rfl fun _ K => dg rfl K rfl rfl (Qh rfl (M.load (k := 1) rfl (Qc XJ (FX AV.bool hi37)))) rfl rfl fun _ K => ?_;refine eQ rfl K rfl rfl (QA rfl) rfl rfl fun b39 _ e39 K => ?_;cases b39
     · refine Yd 4 K M fun _ K => ?_;refine dg rfl K rfl rfl (Z1 (n := k) rfl rfl Qe) rfl rfl fun _ K => ?_;obtain ⟨y45, hi45⟩ := YP s23 (2 ^ k) Qe;have hb45 := hw23.2 y45 (List.mem_of_getElem? hi45);obtain ⟨x45, m45, f45, q45, _, la45, lo45, lp45⟩ := hr23.load (i := 2 ^ k) (cs := _) (JA hi45);refine dg rfl K rfl rfl (Qs (j := 2 ^ k) QG (congrArg some q45) rfl (by rw [Q0]; omega)) rfl rfl fun _ K => dg rfl K rfl rfl (Qh rfl (lo45 _ 0 _ Qq rfl)) rfl rfl fun _ K => ?_;obtain ⟨y47, hi47⟩ := YP cur2 ((y45).toNat) Qe;refine dg rfl K rfl rfl (Qs (j := (y45).toNat) U5 rfl (congrArg (fun z => some (iZ z)) (by omega : _ = (((y45).toNat : Nat) : Int))) Qe) rfl rfl fun _ K => dg rfl K rfl rfl (Qh rfl (M.load (k := 1) rfl (Qc XJ (FX AV.bool hi47)))) rfl rfl fun _ K => ?_;refine Yd 2 K M fun _ K => ?_;refine Jf ?_;show W _ _ _ _ _ _ _;refine YU K rfl (fun h50 => ?_) fun h50 => ?_
       · have hb50 := h50;refine Qb 3 K M fun _ K => ?_;obtain ⟨y54, hi54⟩ := YP cur2 s Qe;refine p1 K (Qs (j := s) U5 rfl rfl Qe) fun _ K => ?_;refine J6 (k := 1) K M rfl rfl rfl El rfl (W9 AV.bool true Qe) fun _ M => ?_;refine Qb 3 K M fun _ K => ?_
         have hcin := RB.set hin (show s < a.n by omega) (wf.UJ (show s < a.n by omega) hp0) (wf.UJ (show s < a.n by omega) hpk) (by rw [hi28, e31]) (by
           first
           | exact .inl (by rw [U3 hi23 hi35, Zz hi37]; assumption)
           | exact .inr (by rw [U3 hi23 hi45, Zz hi47]; simp_all [Qv, Qr]))
         exact ⟨_, Qe, s + 1, (cur2.set s true), true, rfl, (K.sub rfl), (B.step M).less (.refl _), hcin, Qe⟩
       have hb50 := h50;refine Qb 2 K M fun _ K => ?_
       have hcin := hin.keep (show Pz a k cur2 s by
         first
         | exact fun _ => by rw [Zz hi28]; exact e31
         | (intro hh
            rcases hh with hh | hh
            · rw [U3 hi23 hi35, Zz hi37] at hh; simp_all [Qv, Qr]
            · rw [U3 hi23 hi45, Zz hi47] at hh; simp_all [Qv, Qr]))
       exact ⟨_, Qe, s + 1, cur2, more2, rfl, (K.sub rfl), (B.step M).less (.refl _), hcin, Qe⟩
     refine G7 rfl K rfl rfl rfl rfl fun _ _ K => G7 rfl K rfl rfl rfl rfl fun _ _ K => G7 rfl K rfl rfl rfl rfl fun _ _ K => G7 rfl K rfl rfl rfl rfl fun _ _ K => G7 rfl K rfl rfl rfl rfl fun _ _ K => G7 rfl K rfl rfl rfl rfl fun _ _ K => G7 rfl K rfl rfl rfl rfl fun _ _ K => G7 rfl K rfl rfl rfl rfl fun _ _ K => G7 rfl K rfl rfl rfl rfl fun _ _ K => ?_;refine Yd 2 K M fun _ K => ?_;refine Jf ?_;show W _ _ _ _ _ _ _;refine Qb 4 K M fun _ K => ?_;obtain ⟨y54, hi54⟩ := YP cur2 s Qe;refine p1 K (Qs (j := s) U5 rfl rfl Qe) fun _ K => ?_;refine J6 (k := 1) K M rfl rfl rfl El rfl (W9 AV.bool true Qe) fun _ M => ?_;refine Qb 3 K M fun _ K => ?_
     have hcin := RB.set hin (show s < a.n by omega) (wf.UJ (show s < a.n by omega) hp0) (wf.UJ (show s < a.n by omega) hpk) (by rw [hi28, e31]) (by
       first
       | exact .inl (by rw [U3 hi23 hi35, Zz hi37]; assumption)
       | exact .inr (by rw [U3 hi23 hi45, Zz hi47]; simp_all [Qv, Qr]))
     exact ⟨_, Qe, s + 1, (cur2.set s true), true, rfl, (K.sub rfl), (B.step M).less (.refl _), hcin, Qe⟩
   refine QO ?_
   have hmeas : NY cur2 more2 < NY cur more := by rw [show more = true from hb16]; exact hin.ei
   have hsh2 : more2 = false → ∀ s, s < a.n → Pz a k cur2 s := fun e t ht => (hin.no e).1 ▸ ((hin.no e).2 t Qe);exact ⟨_, hmeas, _, _, rfl, (K.sub rfl), (B.step M).less (.refl _), hin.inv, hsh2⟩
 have hb16 := h16;refine QO ?_;show W _ _ _ _ _ _ _;refine Qb 1 K M fun _ K => ?_;replace B := B.step M;have hca := hinv.done wf hpk (hsh (by simpa using hb16));have wf2 := wf.jI (acc := cur) hca.len;obtain ⟨v57, st57, ev57, dp2, F2, rfl, hD2, nf2, q57⟩ := VK (a := ⟨a.tr, cur, a.nx⟩) B.fresh wf2 (Qw.wZ (f := AV.bool) (L := cur) (B.row ca ma _ Qx) Qe Qe) (B.at_ (k := 0) rfl).r;refine p1 K (Qf rfl ev57) fun _ K => ?_;replace B := B.new (o := Ak F2 dp2 ⟨a.tr, cur, a.nx⟩) q57 hD2.at_ nf2;have M := B.mem;refine Qb 4 K M ?_;exact ⟨dp2, F2, cur, rfl, hca, B.SU (k := 0) rfl, (B.step M).ya (k := 0) rfl, (B.step M).qt⟩

end
section
variable {F:Fp} {L:List (List Int)} {cp l mp xp:Nat} {st:St}

def AQ(F:Fp)(cp:Nat)(L:List (List Int)):Ob:=⟨F,fun h=>YH h F cp L,fun _ _ e H=>H.frame e⟩
structure L5(h:Hp)(F:Fp)(xp cp mp:Nat)(L:List (List Int))(l:Nat):Prop where
 pool:YH h F cp L
 met:Qw h mp 0 [.int .i64 (l:Nat),.bool false]
 row:Qw h xp 0 [.ptr cp 0 0,.ptr mp 0 0]
 d1: ¬F mp
 d2: ¬F xp
 d3:xp≠mp
def G5(F:Fp)(xp mp:Nat):Fp:=fun c=>F c∨c=mp∨c=xp
theorem L5.frame{h h':Hp}{F:Fp}{xp cp mp:Nat}{L:List (List Int)}{l:Nat}(e: ∀c,G5 F xp mp c→h' c=h c)(H:L5 h F xp cp mp L l):L5 h' F xp cp mp L l:=
 ⟨H.pool.frame fun c hc=>e c (.inl hc),H.met.frame (e mp (.inr (.inl rfl))),H.row.frame (e xp (.inr (.inr rfl))),H.d1,H.d2,H.d3⟩
def x9(F:Fp)(xp cp mp:Nat)(L:List (List Int))(l:Nat):Ob:=⟨G5 F xp mp,fun h=>L5 h F xp cp mp L l,fun _ _ e H=>H.frame e⟩
theorem Qj.ug(hf:Qg st)(H:L5 st.h.get F xp cp mp L l)(hi: ∀c,G5 F xp mp c→c<st.n):Qj st (G5 F xp mp) st [(xp,0,[.ptr cp 0 0,.ptr mp 0 0])] [AQ F cp L,Zn mp l false]:=by
 refine⟨hf,Nat.le_refl _,fun c m x h=>?_,by simp,fun c m x h=>?_,fun o h=>?_,fun o h c hc=>?_,?_,fun o h c m x hm hc=>?_,fun _ _ _=>rfl⟩
 ·simp at h;obtain⟨rfl,rfl,rfl⟩:=h;exact H.row
 ·simp at h;obtain⟨rfl,rfl,rfl⟩:=h;exact .inr (.inr (.inr rfl))
 ·simp at h;rcases h with rfl|rfl
  ·exact H.pool
  ·exact H.met
 ·simp at h;rcases h with rfl|rfl
  ·exact⟨hi c (.inl hc),.inr (.inl hc)⟩
  ·exact⟨hi c (.inr (.inl hc)),.inr (.inr (.inl hc))⟩
 ·refine List.pairwise_cons.2 ⟨fun o h c h1 h2=>?_,List.pairwise_singleton _ _⟩;rw[List.mem_singleton.1 h]at h2;exact H.d1 ((show c=mp from h2)▸h1)
 ·simp at hm;obtain⟨rfl,rfl,rfl⟩:=hm
  simp at h;rcases h with rfl|rfl
  ·exact H.d2 hc
  ·exact H.d3 hc
theorem Qj.qK{st':St}{F':Fp}(B:Qj st (G5 F xp mp) st' [(xp,0,[.ptr cp 0 0,.ptr mp 0 0])] [AQ F' cp L,Zn mp l false]): ∃F',L5 st'.h.get F' xp cp mp L l∧Eg st st' (G5 F xp mp) (G5 F' xp mp)∧YI (G5 F xp mp) st st':=by
 have hp:=(List.pairwise_cons.1 B.dj).1 (Zn mp l false) Qx;refine⟨F',⟨B.at_ (k:=0) rfl,B.at_ (k:=1) rfl,B.row _ _ _ (List.mem_singleton.2 rfl),fun h=>hp mp h rfl,B.djM (AQ F' cp L) Qx xp 0 _ (List.mem_singleton.2 rfl),fun e=>B.djM (Zn mp l false) Qx xp 0 _ (List.mem_singleton.2 rfl) e⟩,fun c hc=>?_,B.U7⟩;rcases hc with hc|hc|hc
 ·exact⟨(B.DC (k:=0) rfl c hc).symm,B.Vj (k:=0) rfl c hc⟩
 ·exact⟨(B.DC (k:=1) rfl c hc).symm,B.Vj (k:=1) rfl c hc⟩
 ·subst hc;exact⟨.inl (.inr (.inr rfl)),(B.row c 0 _ (List.mem_singleton.2 rfl)).lt B.fresh⟩
theorem Kw(hf:Qg st)(hr:Qw st.h.get mp 0 [.int .i64 (l:Nat),.bool false])(hl:l≤9223372036854775807)(n:Nat)(hn:n≤l): ∃v st',QR 157 [.ptr mp 0 0,.int .i64 (n:Nat)] st v st'∧v=.bool true∧(Zn mp (l-n) false).H st'.h.get∧YI (fun c=>c=mp) st st':=by
 obtain⟨v,st',h1,h2,h3,h4⟩:=NC hf hr hl n Qe;exact⟨v,st',h1,by rw[h2,uY hn],by rw[BA hn]at h3;exact h3,h4⟩
theorem Mm(hf:Qg st){a:Au}(wf:ZP a){kn:AV}{ls:List (List AV)}(hN:Tz st.h.get a.nx kn ls){q:List Int}{kq:AV}(hq:Je st.h.get [] 1 (zC q) kq)(hqs: ∀z∈q,0≤z∧z<((a.n:Nat):Int))(hql:q.length≤400){c k:Nat}(hk:k<a.tr)(hc:c<2^(a.tr-1)): ∃v st',QR 251 [kn,kq,iN c,iN k] st v st'∧ ∃kr A,v=kr∧Ee st.n A kr (UA a k q c)∧(∀c' m l,(c',m,l)∈A→Qw st'.h.get c' m l)∧Qt st st':=by
 have htr:=wf.tr;have hlen:=wf.len;have hc62:c≤64:=by have:=JD (T:=a.tr-1) Qe;omega
 have hu0:=Dt hk hc (u:=0) Q8;have hu1:=Dt hk hc (u:=1) Q8;have hp6:=JD htr;have hnc:=hN.r.cell;have hqc:=hq.cell;have hlo:=OW k c;have hpk:=yV wf hk;have hcm:c % 2^k≤c:=Nat.mod_le _ _
 have hh0:c/2^k *2^(k+1)≤Ws k c 0:=by unfold Ws;omega
 have hh1:c/2^k *2^(k+1)≤9223372036854775807:=by omega
 refine Jq Tryz.func251 Tryz.ntmps251 fun T K=>?_;have M:=Mem.start hf;refine Qb 3 K M fun _ K=>?_;refine p1 K (Z1 (n:=k) rfl rfl Qe) fun _ K=>?_;refine Qb 1 K M fun _ K=>?_;refine p1 K (uE (k:=k) (c:=c) rfl rfl Qe Qe) fun _ K=>?_;refine Qb 5 K M fun _ K=>?_;refine p1 K (zZ (k:=k) (c:=c) rfl rfl Qe) fun _ K=>p1 K (Dz (PJ k c) rfl rfl Qe hh1) fun _ K=>?_;refine Qb 3 K M fun _ K=>?_;refine p1 K (Q4 Js rfl rfl (hq.len.trans (congrArg some (Q0 _)))) fun _ K=>?_;refine Qb 1 K M fun _ K=>?_;refine QV (fun mm1 T st9=> ∃(i:Nat) (ko:AV) (A:Uq),mm1=q.length-i∧QE [(0,kn),(3,iN k),(8,.nils),(10,iZ (Ws k c 0:Nat)),(11,ko),(25,kq),(26,iZ (q.length:Nat)),(27,iN i)] T∧Mem st.h.get st.n [] st9 (A++[])∧i≤q.length∧Acc st.n 1 A ko (zC (AX a k c (q.take i)))) (fun mm1 T st9 hI=>?_) _ _ _ ⟨0,.nils,[],rfl,(K.sub rfl),M.less (.refl _),(Nat.zero_le _),(by rw[List.take_zero];exact .none)⟩;obtain⟨i,ko,A,rfl,K,M,hiq,hA⟩:=hI;refine Qb 1 K M fun _ K=>?_;refine Uk K rfl (fun h28=>?_) fun h28=>?_
 ·refine Qb 0 K M fun _ K=>?_;obtain⟨y29,hi29⟩:=YP q i Qe;have hb29:=hqs y29 (List.mem_of_getElem? hi29);refine oI (Je.mem M hq Qx) (JA hi29) K QG Qq rfl rfl rfl fun _ _ _ _ K=>?_;refine Qb 1 K M fun _ K=>?_;refine QQ (l:=[(0,0),(1,0),(2,0),(3,0),(4,0),(5,0),(6,0),(7,0),(8,0),(9,0),(10,0),(11,0),(12,0),(13,0),(14,0),(15,0),(16,0),(17,0),(18,0),(19,0),(20,0)]) (by kernel_rfl) ?_;refine Yd 3 K M fun _ K=>?_;obtain⟨s34,hi34⟩:=YP a.nx ((y29).toNat) Qe;obtain⟨_,hc34,w34,rfl,hr34,hz34⟩:=hN.at_ _ _ hi34;have hw34:=wf.row s34 (List.mem_of_getElem? hi34);have hl34:s34.length=2^a.tr:=hw34.1;obtain⟨x34,m34,f34,q34,_,la34,lo34,lp34⟩:=(Je.mem M hN.r Qx).load (i:=(y29).toNat) (cs:=_) hc34;refine q1 rfl K (Qs (j:=(y29).toNat) J5 (congrArg some q34) (congrArg (fun z=>some (iZ z)) (by omega:_=(((y29).toNat:Nat):Int))) (by rw[hN.ln];omega)) fun _ K=>q1 rfl K (Qh rfl (lo34 _ 0 _ Jg rfl)) fun _ K=>q1 rfl K (QA rfl) fun _ K=>?_;obtain⟨y37,hi37⟩:=YP s34 ((Ws k c 0)) Qe;have hb37:=hw34.2 y37 (List.mem_of_getElem? hi37);refine dI rfl rfl (Je.mem M hr34 Qx) (JA hi37) K QG Qq rfl rfl rfl fun _ _ _ _ K=>?_;refine Yd 2 K M fun _ K=>?_;obtain⟨_,hc41,w41,rfl,hr41,hz41⟩:=hN.at_ _ _ hi34;obtain⟨x41,m41,f41,q41,_,la41,lo41,lp41⟩:=(Je.mem M hN.r Qx).load (i:=(y29).toNat) (cs:=_) hc41;refine q1 rfl K (Qs (j:=(y29).toNat) J5 (congrArg some q41) (congrArg (fun z=>some (iZ z)) (by omega:_=(((y29).toNat:Nat):Int))) (by rw[hN.ln];omega)) fun _ K=>q1 rfl K (Qh rfl (lo41 _ 0 _ Jg rfl)) fun _ K=>?_;refine Yd 2 K M fun _ K=>?_;refine q1 rfl K (Z1 (n:=k) rfl rfl Qe) fun _ K=>q1 rfl K (Dz (uq k c) rfl rfl Qe Qe) fun _ K=>?_;obtain⟨y47,hi47⟩:=YP s34 ((Ws k c 1)) Qe;have hb47:=hw34.2 y47 (List.mem_of_getElem? hi47);refine dI rfl rfl (Je.mem M hr41 Qx) (JA hi47) K QG Qq rfl rfl rfl fun _ _ _ _ K=>?_;refine H2 rfl K M QT FI rfl rfl rfl rfl rfl fun c49 _ _ K M=>?_;refine jM (L:=[(c49,0,[iZ y37,iZ y47])]) (B:=[]) (ls2:=[[iZ y37],[iZ y47]]) (Y:=[]) rfl K M hA QT rfl rfl (Je.own (ls:=[[iZ y37],[iZ y47]]) (Mem.Uc (k:=0) M rfl) Qx Qx Qx) Qx (by simp only[Q0,N8,List.length_take,List.length_cons,List.length_nil];omega) rfl fun ks50 A50 _ _ K hA50 M=>?_;refine q1 rfl K (Yo rfl) fun _ K=>Jf ?_;show W _ _ _ _ _ _ _;refine Qb 2 K M fun _ K=>?_;exact⟨_,Qe,i+1,ks50,A50,rfl,(K.sub rfl),M.less (.cons _ (.refl _)),Qe,(by rw[D6 hi29,U3 hi34 hi37,U3 hi34 hi47,Us,Int.toNat_of_nonneg hb37.1,Int.toNat_of_nonneg hb47.1];exact hA50)⟩
 refine QO ?_;show W _ _ _ _ _ _ _;refine Qb 1 K M fun _ K=>?_;rw[List.take_of_length_le Qe]at hA;have hln:=N8 a k c q;obtain⟨v53,st53,A12,ev53,rfl,M7,hA12⟩:=N0 (L:=[]) (B:=[]) M hA Qe;refine p1 K (Qf rfl ev53) fun _ K=>?_;replace M:=M7;refine Qb 1 K M fun _ K=>?_;obtain⟨v55,st55,A14,ev55,hA14,M9⟩:=NV (L:=[]) (B:=[]) M hA12 (by rw[JM];omega);rw[Ix]at hA14;refine p1 K (Qf rfl ev55) fun _ K=>?_;replace M:=M9;refine Qb 1 K M ?_;refine⟨_,A14,rfl,hA14,fun c' m l h=>M.row c' m l (by simp[h]),M.qt⟩

theorem Mn(hf:Qg st)(H:L5 st.h.get F xp cp mp L l)(hi: ∀c,G5 F xp mp c→c<st.n)(hL:L.length≤400)(hl1:1≤l)(hl:l≤9223372036854775807){q:List Int}{kq:AV}(hq:Je st.h.get [] 1 (zC q) kq)(hX: ∀c m o n y,kq=.sl c m o n y→ ¬G5 F xp mp c)(hz:FE q)(hql:q.length≤100000)(hs:XS q): ∃v st',QR 248 [.ptr xp 0 0,kq] st v st'∧v=.tup [iZ (Si L q:Nat),.bool (decide (((E8 L q).length:Int)≤400))]∧ ∃F',L5 st'.h.get F' xp cp mp (E8 L q) (l-((E8 L q).length-L.length))∧Eg st st' (G5 F xp mp) (G5 F' xp mp)∧YI (G5 F xp mp) st st':=by
 have B:=Qj.ug hf H hi;have hof:=N5 (L:=L) hs;have hqc:=hq.cell;refine Jq Tryz.func248 Tryz.ntmps248 fun T K=>?_;have M:=B.mem;refine Qb 5 K M fun _ K=>?_;refine p1 K (Qh rfl (M.load (k:=0) rfl (Qc Yh rfl))) fun _ K=>?_;replace B:=B.step M;obtain⟨v12,st12,ev12,rfl,q12⟩:=I6 (L:=L) B.fresh (B.at_ (k:=0) rfl);refine p1 K (Qf rfl ev12) fun _ K=>?_;replace B:=B.quiet q12;have M:=B.mem;refine Qb 4 K M fun _ K=>?_;refine p1 K (Qh rfl (M.load (k:=0) rfl (Qc Yh rfl))) fun _ K=>?_;refine Qb 1 K M fun _ K=>?_;replace B:=B.step M;obtain⟨v18,st18,ev18,rfl,hP2,Q2⟩:=xh B.fresh (B.at_ (k:=0) rfl) (B.Vj (k:=0) rfl) Qe (B.rd hf hq hX) hz hql;refine p1 K (Qf rfl ev18) fun _ K=>?_;generalize hF2:(fun c=>F c∨_)=F2 at hP2;replace B:=B.call (k:=0) (o':=AQ F2 cp (E8 L q)) rfl Q2 hP2 (fun c hc=>by rw[show(AQ F2 cp (E8 L q)).F c=F2 c from rfl,←hF2]at hc;rcases hc with hc|hc;exact⟨.inl hc,Nat.lt_of_lt_of_le (B.Vj (k:=0) rfl c hc) Q2.le⟩;exact⟨.inr hc.1,hc.2⟩);have M:=B.mem;refine Qb 4 K M fun _ K=>?_;refine Uk K rfl (fun h21=>?_) fun h21=>?_
 ·refine Qb 3 K M ?_;replace B:=B.step M;rcases hof with⟨a1,a2,a3⟩|⟨a1,a2,a3⟩
  ·have e8:(E8 L q).length=L.length:=by rw[a2]
   refine⟨by rw[decide_eq_true (show((E8 L q).length:Int)≤400 by omega)],?_⟩;rw[show l-((E8 L q).length-L.length)=l by omega];exact B.qK
  ·exfalso;omega
 refine Qb 5 K M fun _ K=>?_;replace B:=B.step M;obtain⟨v28,st28,ev28,rfl,hm3,Q3⟩:=Kw B.fresh (B.at_ (k:=1) rfl) hl 1 Qe;refine p1 K (Qf rfl ev28) fun _ K=>?_;replace B:=B.call (k:=1) (o':=Zn mp (l-1) false) rfl Q3 hm3 (fun c hc=>⟨.inl hc,Nat.lt_of_lt_of_le (B.Vj (k:=1) rfl c hc) Q3.le⟩);have M:=B.mem;refine Qb 4 K M fun _ K=>?_;refine pg K rfl rfl (Qh rfl (M.load (k:=0) rfl (Qc Yh rfl))) fun _ K=>?_;replace B:=B.step M;obtain⟨v34,st34,ev34,rfl,q34⟩:=I6 (L:=(E8 L q)) B.fresh (B.at_ (k:=0) rfl);refine pg K rfl rfl (Qf rfl ev34) fun _ K=>?_;replace B:=B.quiet q34;have M:=B.mem;refine Qb 4 K M ?_;replace B:=B.step M;rcases hof with⟨a1,a2,a3⟩|⟨a1,a2,a3⟩
 ·exfalso;omega
 ·have e8:(E8 L q).length=L.length+1:=by rw[a2,List.length_append];rfl
  refine⟨rfl,?_⟩;rw[show l-((E8 L q).length-L.length)=l-1 by omega];exact B.qK
end
end Go.Proofs.YtildagdnomiahaaGreatDoor
