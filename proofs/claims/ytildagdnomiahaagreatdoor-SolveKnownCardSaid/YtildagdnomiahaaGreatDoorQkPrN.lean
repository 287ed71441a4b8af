/-
  Closed by a track: the program's answer, the reference's.
-/
import Derived.Test.YtildagdnomiahaaGreatDoorQkOr
set_option maxHeartbeats 8000000
set_option maxRecDepth 100000
set_option linter.unnecessarySimpa false
set_option linter.unusedSimpArgs false
set_option linter.unusedVariables false
namespace Go.Proofs.YtildagdnomiahaaGreatDoor
open Go Go.RowKit
section
variable {a:Au}

theorem ZX.yX(wf:ZX a){acc:List Bool}(h:acc.length=a.n):ZX ⟨a.tr,acc,a.nx⟩:=⟨wf.tr,by show 1≤acc.length;rw[h];exact wf.pos,by show acc.length≤400;rw[h];exact wf.most,by show a.nx.length=acc.length;rw[h];exact wf.len,fun r hr=>by show r.length=a.K∧ ∀z∈r,0≤z∧z<acc.length;rw[h];exact wf.row r hr⟩
theorem vt{k:Nat}(wf:ZX a)(hk:k<a.tr):2^k<2^a.tr:=Nat.pow_lt_pow_right QA hk

theorem P9{st:St}(hf:Qh st){F:Fp}{dp:Nat}(hD:JH st F dp a)(k:Int): ∃v st',QP 268 [.ptr dp 0 0,iZ k] st v st'∧v=.bool (decide (0≤k∧k<a.tr))∧Qt st st':=by
 refine Jy Tryz.func268 Tryz.ntmps268 fun T K=>?_;have M:=Mem.start hf;refine Qa 2 K M fun _ K=>?_;refine p1 K (zP J1 rfl rfl) fun _ K=>?_;refine Qa 4 K M fun _ K=>?_;refine Uz K rfl (fun _ e11 K=>?_) fun _ e11 K=>?_
 · refine Qa 6 K M ?_;refine⟨congrArg AV.bool ?_,M.qt⟩
   first
    |exact(decide_eq_decide.2 ⟨fun h=>⟨by omega,h⟩,fun h=>h.2⟩)
    |exact(decide_eq_false Qe).symm
 refine Qa 2 K M fun _ K=>?_;obtain⟨v14,st14,ev14,rfl,q14⟩:=YZ M.fresh (hD.q M.qt);refine pg K rfl rfl (Qg rfl ev14) fun _ K=>?_;replace M:=M.quiet q14;refine Qa 3 K M ?_;refine⟨congrArg AV.bool ?_,M.qt⟩
 first
  |exact(decide_eq_decide.2 ⟨fun h=>⟨by omega,h⟩,fun h=>h.2⟩)
  |exact(decide_eq_false Qe).symm

theorem Tq {st : St} (hf : Qh st) {F : Fp} {dp : Nat} (hD : JH st F dp a) {k : Nat} (hk : k < a.tr) : ∃ v st', QP 246 [.ptr dp 0 0, iN k] st v st' ∧ ∃ dp2 F2 acc, v = .tup [.ptr dp2 0 0, iZ 0] ∧ Aj a k acc ∧ JH st' F2 dp2 ⟨a.tr, acc, a.nx⟩ ∧ XP st st' F2 ∧ Qt st st' := by
 have wf := hD.wf;have hpk := vt wf hk; have hp64 := JE wf.tr; have hps := wf.pos; have hmo := wf.most; have hln := wf.len; have hen : a.n = a.acc.length := rfl; have htr := wf.tr; have hp0 : 0 < 2 ^ a.tr := Nat.two_pow_pos _;have B := Ql.start hf;refine Jy Tryz.func246 Tryz.ntmps246 fun T K => ?_;have M := B.mem;refine Qa 4 K M fun _ K => ?_;refine oQ K M (P9 M.fresh (hD.q M.qt) ((k : Nat) : Int)) rfl rfl fun _ _ K M => ?_;refine Qa 1 K M fun _ K => ?_;refine iR K rfl (fun h13 => ?_) fun h13 => ?_
 · exfalso; omega
 refine Qa 1 K M fun _ K => ?_;replace B := B.step M;obtain ⟨v15, st15, ev15, nau15, q15⟩ := FJ B.fresh (hD.q B.qt);refine p1 K (Qg rfl ev15) fun _ K => ?_;obtain ⟨_, kn, vs, _, Fn, rfl, hAa, B⟩ := B.Fv q15 nau15;obtain ⟨ca, ma, rfl, rfl⟩ := Acc.vK (f := AV.bool) (L := a.acc) hAa Qe;have hnc : Qw kn = true := (B.at_ (k := 0) rfl).rd.cell;replace B := B.cast (M' := [(ca, ma, (a.acc.map AV.bool))]) Q0;have M := B.mem;refine au 1 K M ?_;intro c6 _ _ K _ M;refine Yf (k := 0) K M rfl rfl rfl ZK rfl (Qc rfl (Qc rfl (Qc ((B.step M).at_ (k := 0) rfl).rd.cell QY))) rfl fun _ M => ?_;refine Qa 1 K M fun _ K => ?_;refine Jc (fun mm1 T st9 => ∃ (cur : List Bool) (more : Bool), mm1 = O3 cur more ∧ QG [(1, iN k), (4, .nilp), (5, iZ 0), (6, .ptr c6 0 0), (7, .bool more)] T ∧ Ql st WM st9 [(c6, 0, [iZ (a.tr : Nat), .sl ca ma 0 a.acc.length 1, kn]), (ca, ma, (cur.map AV.bool))] [Ns Fn kn vs a.nx] ∧ HE a k cur ∧ (more = false → ∀ s, s < a.n → Rl a k cur s)) (fun mm1 T st9 hI => ?_) _ _ _ ⟨_, true, rfl, (K.sub rfl), (B.step M).less (.refl _), (HE.start a k), (fun h => by cases h)⟩;obtain ⟨cur, more, rfl, K, B, hinv, hsh⟩ := hI;have M := B.mem;have hcl1 := hinv.len;refine Qa 1 K M fun _ K => ?_;refine Ze K rfl (fun h16 => ?_) fun h16 => ?_
 · have hb16 := h16;refine Qa 2 K M fun _ K => ?_;refine p1 K (Qi rfl (M.load (k := 0) rfl (Qb QO rfl))) fun _ K => p1 K (Q7 UD rfl rfl ((B.step M).at_ (k := 0) rfl).len) fun _ K => ?_;refine Qa 1 K M fun _ K => ?_;refine Jc (fun mm2 T st9 => ∃ (s : Nat) (cur2 : List Bool) (more2 : Bool), mm2 = a.nx.length - s ∧ QG [(1, iN k), (4, .nilp), (5, iZ 0), (6, .ptr c6 0 0), (7, .bool more2), (18, kn), (19, iZ (a.nx.length : Nat)), (20, iN s)] T ∧ Ql st WM st9 [(c6, 0, [iZ (a.tr : Nat), .sl ca ma 0 a.acc.length 1, kn]), (ca, ma, (cur2.map AV.bool))] [Ns Fn kn vs a.nx] ∧ SE a k cur cur2 more2 s ∧ s ≤ a.nx.length) (fun mm2 T st9 hI => ?_) _ _ _ ⟨0, _, _, rfl, (K.sub rfl), (B.step M).less (.refl _), (SE.start hinv), (Nat.zero_le _)⟩;obtain ⟨s, cur2, more2, rfl, K, B, hin, hsi⟩ := hI;have M := B.mem;have hcl2 := hin.inv.len;refine Qa 1 K M fun _ K => ?_;refine UA K rfl (fun h21 => ?_) fun h21 => ?_
   · refine Qa 1 K M fun _ K => ?_;obtain ⟨s23, hi23⟩ := YY a.nx s Qe;obtain ⟨w23, hv23, hr23, hz23, hf23⟩ := ((B.step M).at_ (k := 0) rfl).vs.at_ _ _ hi23;have hw23 := wf.row s23 (List.mem_of_getElem? hi23);have hl23 : s23.length = 2 ^ a.tr := hw23.1;refine oI ((B.step M).at_ (k := 0) rfl).rd (by rw [List.getElem?_map, hv23]; rfl) K J4 Jd rfl rfl rfl fun _ _ _ _ K => ?_;refine Qa 2 K M fun _ K => ?_;refine QU (l := [(0, 0), (1, 0), (2, 0), (3, 0), (4, 0), (5, 0), (6, 0), (7, 0), (8, 0), (9, 0), (10, 0), (11, 0), (12, 0), (13, 0), (14, 0), (15, 0), (16, 0), (17, 0), (18, 0), (19, 0), (20, 0), (21, 0), (22, 0), (23, 0), (24, 0), (25, 0)]) (by kernel_rfl) ?_;refine Yq 3 K M fun _ K => ?_;obtain ⟨y28, hi28⟩ := YY cur2 s Qe;refine q1 rfl K (Qv (j := s) U8 rfl rfl Qe) fun _ K => q1 rfl K (Qi rfl (M.load (k := 1) rfl (Qb XW (Hm AV.bool hi28)))) fun _ K => q1 rfl K (qY rfl) fun _ K => ?_;refine dB rfl K (Q8 rfl) rfl rfl fun b31 _ e31 K => ?_;cases b31
     · replace e31 : (y28) = true := by simpa using e31
       refine Bs rfl K rfl rfl rfl rfl fun _ _ K => Bs rfl K rfl rfl rfl rfl fun _ _ K => Bs rfl K rfl rfl rfl rfl fun _ _ K => Bs rfl K rfl rfl rfl rfl fun _ _ K => Bs rfl K rfl rfl rfl rfl fun _ _ K => Bs rfl K rfl rfl rfl rfl fun _ _ K => Bs rfl K rfl rfl rfl rfl fun _ _ K => Bs rfl K rfl rfl rfl rfl fun _ _ K => ?_;refine GL rfl K rfl rfl rfl fun _ _ K => ?_;refine GL rfl K rfl rfl rfl fun _ _ K => ?_;refine GL rfl K rfl rfl rfl fun _ _ K => ?_;refine GL rfl K rfl rfl rfl fun _ _ K => ?_;refine GL rfl K rfl rfl rfl fun _ _ K => ?_;refine GL rfl K rfl rfl rfl fun _ _ K => ?_;refine GL rfl K rfl rfl rfl fun _ _ K => ?_;refine GL rfl K rfl rfl rfl fun _ _ K => ?_;refine GL rfl K rfl rfl rfl fun _ _ K => ?_;refine Bs rfl K rfl rfl rfl rfl fun _ _ K => ?_;refine Yq 1 K M fun _ K => ?_;refine Ji ?_;show W _ _ _ _ _ _ _;refine Qa 3 K M fun _ K => ?_
       have hcin := hin.keep (show Rl a k cur2 s by
         first
         | exact fun _ => by rw [Z9 hi28]; exact e31
         | (intro hh
            rcases hh with hh | hh
            · rw [U6 hi23 hi35, Z9 hi37] at hh; simp_all [Qs, Qp]
            · rw [U6 hi23 hi45, Z9 hi47] at hh; simp_all [Qs, Qp]))
       exact ⟨_, Qe, s + 1, cur2, more2, rfl, (K.sub rfl), (B.step M).less (.refl _), hcin, Qe⟩
     replace e31 : (y28) = false := by simpa using e31
     refine Yq 3 K M fun _ K => ?_;obtain ⟨y35, hi35⟩ := YY s23 0 Qe;have hb35 := hw23.2 y35 (List.mem_of_getElem? hi35);obtain ⟨x35, m35, f35, q35, _, la35, lo35, lp35⟩ := hr23.load (i := 0) (cs := _) (JB hi35);refine dg rfl K rfl rfl (Qv (j := 0) QF (congrArg some q35) rfl (by rw [Qz]; omega)) rfl rfl fun _ K => dg rfl K rfl rfl (Qi rfl (lo35 _ 0 _ Qr rfl)) rfl rfl fun _ K => ?_;obtain ⟨y37, hi37⟩ := YY cur2 ((y35).toNat) Qe;refine dg rfl K rfl rfl (Qv (j := (y35).toNat) U8 rfl (congrArg (fun z => some (iZ z)) (by omega : _ = (((y35).toNat : Nat) : Int))) Qe) rfl rfl fun _ K => dg rfl K rfl rfl (Qi rfl (M.load (k := 1) rfl (Qb XW (Hm AV.bool hi37)))) rfl rfl fun _ K => ?_;refine lA rfl K rfl rfl (Q8 rfl) rfl rfl fun b39 _ e39 K => ?_;cases b39
     · refine Yq 4 K M fun _ K => ?_;refine dg rfl K rfl rfl (ZB (n := k) rfl rfl Qe) rfl rfl fun _ K => ?_;obtain ⟨y45, hi45⟩ := YY s23 (2 ^ k) Qe;have hb45 := hw23.2 y45 (List.mem_of_getElem? hi45);obtain ⟨x45, m45, f45, q45, _, la45, lo45, lp45⟩ := hr23.load (i := 2 ^ k) (cs := _) (JB hi45);refine dg rfl K rfl rfl (Qv (j := 2 ^ k) QF (congrArg some q45) rfl (by rw [Qz]; omega)) rfl rfl fun _ K => dg rfl K rfl rfl (Qi rfl (lo45 _ 0 _ Qr rfl)) rfl rfl fun _ K => ?_;obtain ⟨y47, hi47⟩ := YY cur2 ((y45).toNat) Qe;refine dg rfl K rfl rfl (Qv (j := (y45).toNat) U8 rfl (congrArg (fun z => some (iZ z)) (by omega : _ = (((y45).toNat : Nat) : Int))) Qe) rfl rfl fun _ K => dg rfl K rfl rfl (Qi rfl (M.load (k := 1) rfl (Qb XW (Hm AV.bool hi47)))) rfl rfl fun _ K => ?_;refine Yq 2 K M fun _ K => ?_;refine Ji ?_;show W _ _ _ _ _ _ _;refine Ze K rfl (fun h50 => ?_) fun h50 => ?_
       · have hb50 := h50;refine Qa 3 K M fun _ K => ?_;obtain ⟨y54, hi54⟩ := YY cur2 s Qe;refine p1 K (Qv (j := s) U8 rfl rfl Qe) fun _ K => ?_;refine J5 (k := 1) K M rfl rfl rfl E1 rfl (WL AV.bool true Qe) fun _ M => ?_;refine Qa 3 K M fun _ K => ?_
         have hcin := SE.set hin (show s < a.n by omega) (wf.UN (show s < a.n by omega) hp0) (wf.UN (show s < a.n by omega) hpk) (by rw [hi28, e31]) (by
           first
           | exact .inl (by rw [U6 hi23 hi35, Z9 hi37]; assumption)
           | exact .inr (by rw [U6 hi23 hi45, Z9 hi47]; simp_all [Qs, Qp]))
         exact ⟨_, Qe, s + 1, (cur2.set s true), true, rfl, (K.sub rfl), (B.step M).less (.refl _), hcin, Qe⟩
       have hb50 := h50;refine Qa 2 K M fun _ K => ?_
       have hcin := hin.keep (show Rl a k cur2 s by
         first
         | exact fun _ => by rw [Z9 hi28]; exact e31
         | (intro hh
            rcases hh with hh | hh
            · rw [U6 hi23 hi35, Z9 hi37] at hh; simp_all [Qs, Qp]
            · rw [U6 hi23 hi45, Z9 hi47] at hh; simp_all [Qs, Qp]))
       exact ⟨_, Qe, s + 1, cur2, more2, rfl, (K.sub rfl), (B.step M).less (.refl _), hcin, Qe⟩
     refine Bs rfl K rfl rfl rfl rfl fun _ _ K => Bs rfl K rfl rfl rfl rfl fun _ _ K => Bs rfl K rfl rfl rfl rfl fun _ _ K => Bs rfl K rfl rfl rfl rfl fun _ _ K => Bs rfl K rfl rfl rfl rfl fun _ _ K => Bs rfl K rfl rfl rfl rfl fun _ _ K => Bs rfl K rfl rfl rfl rfl fun _ _ K => Bs rfl K rfl rfl rfl rfl fun _ _ K => Bs rfl K rfl rfl rfl rfl fun _ _ K => ?_;refine Yq 2 K M fun _ K => ?_;refine Ji ?_;show W _ _ _ _ _ _ _;refine Qa 4 K M fun _ K => ?_;obtain ⟨y54, hi54⟩ := YY cur2 s Qe;refine p1 K (Qv (j := s) U8 rfl rfl Qe) fun _ K => ?_;refine J5 (k := 1) K M rfl rfl rfl E1 rfl (WL AV.bool true Qe) fun _ M => ?_;refine Qa 3 K M fun _ K => ?_
     have hcin := SE.set hin (show s < a.n by omega) (wf.UN (show s < a.n by omega) hp0) (wf.UN (show s < a.n by omega) hpk) (by rw [hi28, e31]) (by
       first
       | exact .inl (by rw [U6 hi23 hi35, Z9 hi37]; assumption)
       | exact .inr (by rw [U6 hi23 hi45, Z9 hi47]; simp_all [Qs, Qp]))
     exact ⟨_, Qe, s + 1, (cur2.set s true), true, rfl, (K.sub rfl), (B.step M).less (.refl _), hcin, Qe⟩
   refine QT ?_
   have hmeas : O3 cur2 more2 < O3 cur more := by rw [show more = true from hb16]; exact hin.k8
   have hsh2 : more2 = false → ∀ s, s < a.n → Rl a k cur2 s := fun e t ht => (hin.no e).1 ▸ ((hin.no e).2 t Qe);exact ⟨_, hmeas, _, _, rfl, (K.sub rfl), (B.step M).less (.refl _), hin.inv, hsh2⟩
 have hb16 := h16;refine QT ?_;show W _ _ _ _ _ _ _;refine Qa 1 K M fun _ K => ?_;replace B := B.step M;have hca := hinv.done wf hpk (hsh (by simpa using hb16));have wf2 := wf.yX (acc := cur) hca.len;obtain ⟨v57, st57, ev57, dp2, F2, rfl, hD2, nf2, q57⟩ := VX (a := ⟨a.tr, cur, a.nx⟩) B.fresh wf2 (Qu.kj (f := AV.bool) (L := cur) (B.row ca ma _ Q0) Qe Qe) (B.at_ (k := 0) rfl).r;refine p1 K (Qg rfl ev57) fun _ K => ?_;replace B := B.new (o := A9 F2 dp2 ⟨a.tr, cur, a.nx⟩) q57 hD2.at_ nf2;have M := B.mem;refine Qa 4 K M ?_;exact ⟨dp2, F2, cur, rfl, hca, B.Mk (k := 0) rfl, (B.step M).xq (k := 0) rfl, (B.step M).qt⟩

end
section
variable {F:Fp} {L:List (List Int)} {cp l mp xp:Nat} {st:St}

def Fh(F:Fp)(cp:Nat)(L:List (List Int)):Ob:=⟨F,fun h=>YQ h F cp L,fun _ _ e H=>H.frame e⟩
structure LU(h:Hp)(F:Fp)(xp cp mp:Nat)(L:List (List Int))(l:Nat):Prop where
 pool:YQ h F cp L
 met:Qu h mp 0 [.int .i64 (l:Nat),.bool false]
 row:Qu h xp 0 [.ptr cp 0 0,.ptr mp 0 0]
 d1: ¬F mp
 d2: ¬F xp
 d3:xp≠mp
def Br(F:Fp)(xp mp:Nat):Fp:=fun c=>F c∨c=mp∨c=xp
theorem LU.frame{h h':Hp}{F:Fp}{xp cp mp:Nat}{L:List (List Int)}{l:Nat}(e: ∀c,Br F xp mp c→h' c=h c)(H:LU h F xp cp mp L l):LU h' F xp cp mp L l:=
 ⟨H.pool.frame fun c hc=>e c (.inl hc),H.met.frame (e mp (.inr (.inl rfl))),H.row.frame (e xp (.inr (.inr rfl))),H.d1,H.d2,H.d3⟩
def eM(F:Fp)(xp cp mp:Nat)(L:List (List Int))(l:Nat):Ob:=⟨Br F xp mp,fun h=>LU h F xp cp mp L l,fun _ _ e H=>H.frame e⟩
theorem Ql.zy(hf:Qh st)(H:LU st.h.get F xp cp mp L l)(hi: ∀c,Br F xp mp c→c<st.n):Ql st (Br F xp mp) st [(xp,0,[.ptr cp 0 0,.ptr mp 0 0])] [Fh F cp L,Zx mp l false]:=by
 refine⟨hf,Nat.le_refl _,fun c m x h=>?_,by simp,fun c m x h=>?_,fun o h=>?_,fun o h c hc=>?_,?_,fun o h c m x hm hc=>?_,fun _ _ _=>rfl⟩
 ·simp at h;obtain⟨rfl,rfl,rfl⟩:=h;exact H.row
 ·simp at h;obtain⟨rfl,rfl,rfl⟩:=h;exact .inr (.inr (.inr rfl))
 ·simp at h;rcases h with rfl|rfl
  ·exact H.pool
  ·exact H.met
 ·simp at h;rcases h with rfl|rfl
  ·exact⟨hi c (.inl hc),.inr (.inl hc)⟩
  ·exact⟨hi c (.inr (.inl hc)),.inr (.inr (.inl hc))⟩
 ·refine List.pairwise_cons.2 ⟨fun o h c h1 h2=>?_,List.pairwise_singleton _ _⟩;rw[List.mem_singleton.1 h]at h2;exact H.d1 ((show c=mp from h2)▸h1)
 ·simp at hm;obtain⟨rfl,rfl,rfl⟩:=hm
  simp at h;rcases h with rfl|rfl
  ·exact H.d2 hc
  ·exact H.d3 hc
theorem Ql.uK{st':St}{F':Fp}(B:Ql st (Br F xp mp) st' [(xp,0,[.ptr cp 0 0,.ptr mp 0 0])] [Fh F' cp L,Zx mp l false]): ∃F',LU st'.h.get F' xp cp mp L l∧Es st st' (Br F xp mp) (Br F' xp mp)∧YR (Br F xp mp) st st':=by
 have hp:=(List.pairwise_cons.1 B.dj).1 (Zx mp l false) Q0;refine⟨F',⟨B.at_ (k:=0) rfl,B.at_ (k:=1) rfl,B.row _ _ _ (List.mem_singleton.2 rfl),fun h=>hp mp h rfl,B.djM (Fh F' cp L) Q0 xp 0 _ (List.mem_singleton.2 rfl),fun e=>B.djM (Zx mp l false) Q0 xp 0 _ (List.mem_singleton.2 rfl) e⟩,fun c hc=>?_,B.U9⟩;rcases hc with hc|hc|hc
 ·exact⟨(B.P2 (k:=0) rfl c hc).symm,B.Vx (k:=0) rfl c hc⟩
 ·exact⟨(B.P2 (k:=1) rfl c hc).symm,B.Vx (k:=1) rfl c hc⟩
 ·subst hc;exact⟨.inl (.inr (.inr rfl)),(B.row c 0 _ (List.mem_singleton.2 rfl)).lt B.fresh⟩
theorem KU(hf:Qh st)(hr:Qu st.h.get mp 0 [.int .i64 (l:Nat),.bool false])(hl:l≤9223372036854775807)(n:Nat)(hn:n≤l): ∃v st',QP 157 [.ptr mp 0 0,.int .i64 (n:Nat)] st v st'∧v=.bool true∧(Zx mp (l-n) false).H st'.h.get∧YR (fun c=>c=mp) st st':=by
 obtain⟨v,st',h1,h2,h3,h4⟩:=Od hf hr hl n Qe;exact⟨v,st',h1,by rw[h2,xn hn],by rw[Ct hn]at h3;exact h3,h4⟩
theorem qT(hf:Qh st){a:Au}(wf:ZX a){kn:AV}{ls:List (List AV)}(hN:MD st.h.get a.nx kn ls){q:List Int}{kq:AV}(hq:Jb st.h.get [] 1 (zC q) kq)(hqs: ∀z∈q,0≤z∧z<((a.n:Nat):Int))(hql:q.length≤400){c k:Nat}(hk:k<a.tr)(hc:c<2^(a.tr-1)): ∃v st',QP 251 [kn,kq,iN c,iN k] st v st'∧ ∃kr A,v=kr∧Eo st.n A kr (UB a k q c)∧(∀c' m l,(c',m,l)∈A→Qu st'.h.get c' m l)∧Qt st st':=by
 have htr:=wf.tr;have hlen:=wf.len;have hc62:c≤64:=by have:=JE (T:=a.tr-1) Qe;omega
 have hu0:=Po hk hc (u:=0) QA;have hu1:=Po hk hc (u:=1) QA;have hp6:=JE htr;have hnc:=hN.r.cell;have hqc:=hq.cell;have hlo:=GA k c;have hpk:=vt wf hk;have hcm:c % 2^k≤c:=Nat.mod_le _ _
 have hh0:c/2^k *2^(k+1)≤W2 k c 0:=by unfold W2;omega
 have hh1:c/2^k *2^(k+1)≤9223372036854775807:=by omega
 refine Jy Tryz.func251 Tryz.ntmps251 fun T K=>?_;have M:=Mem.start hf;refine Qa 3 K M fun _ K=>?_;refine p1 K (ZB (n:=k) rfl rfl Qe) fun _ K=>?_;refine Qa 1 K M fun _ K=>?_;refine p1 K (zS (k:=k) (c:=c) rfl rfl Qe Qe) fun _ K=>?_;refine Qa 5 K M fun _ K=>?_;refine p1 K (ea (k:=k) (c:=c) rfl rfl Qe) fun _ K=>p1 K (Ps (RA k c) rfl rfl Qe hh1) fun _ K=>?_;refine Qa 3 K M fun _ K=>?_;refine p1 K (Q7 Jr rfl rfl (hq.len.trans (congrArg some (Qz _)))) fun _ K=>?_;refine Qa 1 K M fun _ K=>?_;refine Jc (fun mm1 T st9=> ∃(i:Nat) (ko:AV) (A:Ut),mm1=q.length-i∧QG [(0,kn),(3,iN k),(8,.nils),(10,iZ (W2 k c 0:Nat)),(11,ko),(25,kq),(26,iZ (q.length:Nat)),(27,iN i)] T∧Mem st.h.get st.n [] st9 (A++[])∧i≤q.length∧Acc st.n 1 A ko (zC (Ft a k c (q.take i)))) (fun mm1 T st9 hI=>?_) _ _ _ ⟨0,.nils,[],rfl,(K.sub rfl),M.less (.refl _),(Nat.zero_le _),(by rw[List.take_zero];exact .none)⟩;obtain⟨i,ko,A,rfl,K,M,hiq,hA⟩:=hI;refine Qa 1 K M fun _ K=>?_;refine UA K rfl (fun h28=>?_) fun h28=>?_
 ·refine Qa 0 K M fun _ K=>?_;obtain⟨y29,hi29⟩:=YY q i Qe;have hb29:=hqs y29 (List.mem_of_getElem? hi29);refine oI (Jb.mem M hq Q0) (JB hi29) K QF Qr rfl rfl rfl fun _ _ _ _ K=>?_;refine Qa 1 K M fun _ K=>?_;refine QU (l:=[(0,0),(1,0),(2,0),(3,0),(4,0),(5,0),(6,0),(7,0),(8,0),(9,0),(10,0),(11,0),(12,0),(13,0),(14,0),(15,0),(16,0),(17,0),(18,0),(19,0),(20,0)]) (by kernel_rfl) ?_;refine Yq 3 K M fun _ K=>?_;obtain⟨s34,hi34⟩:=YY a.nx ((y29).toNat) Qe;obtain⟨_,hc34,w34,rfl,hr34,hz34⟩:=hN.at_ _ _ hi34;have hw34:=wf.row s34 (List.mem_of_getElem? hi34);have hl34:s34.length=2^a.tr:=hw34.1;obtain⟨x34,m34,f34,q34,_,la34,lo34,lp34⟩:=(Jb.mem M hN.r Q0).load (i:=(y29).toNat) (cs:=_) hc34;refine q1 rfl K (Qv (j:=(y29).toNat) J4 (congrArg some q34) (congrArg (fun z=>some (iZ z)) (by omega:_=(((y29).toNat:Nat):Int))) (by rw[hN.ln];omega)) fun _ K=>q1 rfl K (Qi rfl (lo34 _ 0 _ Jd rfl)) fun _ K=>q1 rfl K (Q8 rfl) fun _ K=>?_;obtain⟨y37,hi37⟩:=YY s34 ((W2 k c 0)) Qe;have hb37:=hw34.2 y37 (List.mem_of_getElem? hi37);refine dI rfl rfl (Jb.mem M hr34 Q0) (JB hi37) K QF Qr rfl rfl rfl fun _ _ _ _ K=>?_;refine Yq 2 K M fun _ K=>?_;obtain⟨_,hc41,w41,rfl,hr41,hz41⟩:=hN.at_ _ _ hi34;obtain⟨x41,m41,f41,q41,_,la41,lo41,lp41⟩:=(Jb.mem M hN.r Q0).load (i:=(y29).toNat) (cs:=_) hc41;refine q1 rfl K (Qv (j:=(y29).toNat) J4 (congrArg some q41) (congrArg (fun z=>some (iZ z)) (by omega:_=(((y29).toNat:Nat):Int))) (by rw[hN.ln];omega)) fun _ K=>q1 rfl K (Qi rfl (lo41 _ 0 _ Jd rfl)) fun _ K=>?_;refine Yq 2 K M fun _ K=>?_;refine q1 rfl K (ZB (n:=k) rfl rfl Qe) fun _ K=>q1 rfl K (Ps (zD k c) rfl rfl Qe Qe) fun _ K=>?_;obtain⟨y47,hi47⟩:=YY s34 ((W2 k c 1)) Qe;have hb47:=hw34.2 y47 (List.mem_of_getElem? hi47);refine dI rfl rfl (Jb.mem M hr41 Q0) (JB hi47) K QF Qr rfl rfl rfl fun _ _ _ _ K=>?_;refine HM rfl K M QR FZ rfl rfl rfl rfl rfl fun c49 _ _ K M=>?_;refine zb (L:=[(c49,0,[iZ y37,iZ y47])]) (B:=[]) (ls2:=[[iZ y37],[iZ y47]]) (Y:=[]) rfl K M hA QR rfl rfl (Jb.own (ls:=[[iZ y37],[iZ y47]]) (Mem.Ue (k:=0) M rfl) Q0 Q0 Q0) Q0 (by simp only[Qz,NZ,List.length_take,List.length_cons,List.length_nil];omega) rfl fun ks50 A50 _ _ K hA50 M=>?_;refine q1 rfl K (Ys rfl) fun _ K=>Ji ?_;show W _ _ _ _ _ _ _;refine Qa 2 K M fun _ K=>?_;exact⟨_,Qe,i+1,ks50,A50,rfl,(K.sub rfl),M.less (.cons _ (.refl _)),Qe,(by rw[Pw hi29,U6 hi34 hi37,U6 hi34 hi47,Uv,Int.toNat_of_nonneg hb37.1,Int.toNat_of_nonneg hb47.1];exact hA50)⟩
 refine QT ?_;show W _ _ _ _ _ _ _;refine Qa 1 K M fun _ K=>?_;rw[List.take_of_length_le Qe]at hA;have hln:=NZ a k c q;obtain⟨v53,st53,A12,ev53,rfl,M7,hA12⟩:=NR (L:=[]) (B:=[]) M hA Qe;refine p1 K (Qg rfl ev53) fun _ K=>?_;replace M:=M7;refine Qa 1 K M fun _ K=>?_;obtain⟨v55,st55,A14,ev55,hA14,M9⟩:=O0 (L:=[]) (B:=[]) M hA12 (by rw[JK];omega);rw[ID]at hA14;refine p1 K (Qg rfl ev55) fun _ K=>?_;replace M:=M9;refine Qa 1 K M ?_;refine⟨_,A14,rfl,hA14,fun c' m l h=>M.row c' m l (by simp[h]),M.qt⟩

theorem qU(hf:Qh st)(H:LU st.h.get F xp cp mp L l)(hi: ∀c,Br F xp mp c→c<st.n)(hL:L.length≤400)(hl1:1≤l)(hl:l≤9223372036854775807){q:List Int}{kq:AV}(hq:Jb st.h.get [] 1 (zC q) kq)(hX: ∀c m o n y,kq=.sl c m o n y→ ¬Br F xp mp c)(hz:FU q)(hql:q.length≤100000)(hs:Vi q): ∃v st',QP 248 [.ptr xp 0 0,kq] st v st'∧v=.tup [iZ (Tx L q:Nat),.bool (decide (((EK L q).length:Int)≤400))]∧ ∃F',LU st'.h.get F' xp cp mp (EK L q) (l-((EK L q).length-L.length))∧Es st st' (Br F xp mp) (Br F' xp mp)∧YR (Br F xp mp) st st':=by
 have B:=Ql.zy hf H hi;have hof:=NW (L:=L) hs;have hqc:=hq.cell;refine Jy Tryz.func248 Tryz.ntmps248 fun T K=>?_;have M:=B.mem;refine Qa 5 K M fun _ K=>?_;refine p1 K (Qi rfl (M.load (k:=0) rfl (Qb Yj rfl))) fun _ K=>?_;replace B:=B.step M;obtain⟨v12,st12,ev12,rfl,q12⟩:=IM (L:=L) B.fresh (B.at_ (k:=0) rfl);refine p1 K (Qg rfl ev12) fun _ K=>?_;replace B:=B.quiet q12;have M:=B.mem;refine Qa 4 K M fun _ K=>?_;refine p1 K (Qi rfl (M.load (k:=0) rfl (Qb Yj rfl))) fun _ K=>?_;refine Qa 1 K M fun _ K=>?_;replace B:=B.step M;obtain⟨v18,st18,ev18,rfl,hP2,Q2⟩:=er B.fresh (B.at_ (k:=0) rfl) (B.Vx (k:=0) rfl) Qe (B.rd hf hq hX) hz hql;refine p1 K (Qg rfl ev18) fun _ K=>?_;generalize hF2:(fun c=>F c∨_)=F2 at hP2;replace B:=B.call (k:=0) (o':=Fh F2 cp (EK L q)) rfl Q2 hP2 (fun c hc=>by rw[show(Fh F2 cp (EK L q)).F c=F2 c from rfl,←hF2]at hc;rcases hc with hc|hc;exact⟨.inl hc,Nat.lt_of_lt_of_le (B.Vx (k:=0) rfl c hc) Q2.le⟩;exact⟨.inr hc.1,hc.2⟩);have M:=B.mem;refine Qa 4 K M fun _ K=>?_;refine UA K rfl (fun h21=>?_) fun h21=>?_
 ·refine Qa 3 K M ?_;replace B:=B.step M;rcases hof with⟨a1,a2,a3⟩|⟨a1,a2,a3⟩
  ·have e8:(EK L q).length=L.length:=by rw[a2]
   refine⟨by rw[decide_eq_true (show((EK L q).length:Int)≤400 by omega)],?_⟩;rw[show l-((EK L q).length-L.length)=l by omega];exact B.uK
  ·exfalso;omega
 refine Qa 5 K M fun _ K=>?_;replace B:=B.step M;obtain⟨v28,st28,ev28,rfl,hm3,Q3⟩:=KU B.fresh (B.at_ (k:=1) rfl) hl 1 Qe;refine p1 K (Qg rfl ev28) fun _ K=>?_;replace B:=B.call (k:=1) (o':=Zx mp (l-1) false) rfl Q3 hm3 (fun c hc=>⟨.inl hc,Nat.lt_of_lt_of_le (B.Vx (k:=1) rfl c hc) Q3.le⟩);have M:=B.mem;refine Qa 4 K M fun _ K=>?_;refine pg K rfl rfl (Qi rfl (M.load (k:=0) rfl (Qb Yj rfl))) fun _ K=>?_;replace B:=B.step M;obtain⟨v34,st34,ev34,rfl,q34⟩:=IM (L:=(EK L q)) B.fresh (B.at_ (k:=0) rfl);refine pg K rfl rfl (Qg rfl ev34) fun _ K=>?_;replace B:=B.quiet q34;have M:=B.mem;refine Qa 4 K M ?_;replace B:=B.step M;rcases hof with⟨a1,a2,a3⟩|⟨a1,a2,a3⟩
 ·exfalso;omega
 ·have e8:(EK L q).length=L.length+1:=by rw[a2,List.length_append];rfl
  refine⟨rfl,?_⟩;rw[show l-((EK L q).length-L.length)=l-1 by omega];exact B.uK
end
end Go.Proofs.YtildagdnomiahaaGreatDoor
