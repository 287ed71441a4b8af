/-
  Core formulas: how great, what they may be; lower: whole formulas.
-/
import Derived.Test.YtadjjadimlkkgaaGreatDoorLiLwE
import Derived.Test.YtadjjadimlkkgaaGreatDoorLiKnJ
import Derived.Test.YtadjjadimlkkgaaGreatDoorLiFill
namespace Go.Proofs.YtadjjadimlkkgaaGreatDoor
open Go Go.RowKit
set_option maxHeartbeats 8000000
set_option linter.unusedVariables false
set_option linter.unusedSimpArgs false
set_option linter.unnecessarySimpa false
set_option linter.unusedSectionVars false
set_option maxRecDepth 100000

theorem Ma(h:Hp):XY R0 h:=fun _ _ _ h=>h.elim
theorem CN(k:Cr):1≤Hv k:=by cases k;rw[Hv];omega
theorem RA{k:Cr}{l:List Cr}(h:k∈l):Hv k≤Au l:=by
 induction l with
 |nil=>cases h
 |cons x l ih=>
  rw[Au];rcases List.mem_cons.1 h with rfl|h
  ·omega
  ·have:=ih h;omega
theorem Lg{l:List Cr}{i:Nat}{k:Cr}(h:l[i]? =some k):Au (l.drop i)=Hv k+Au (l.drop (i+1)):=by
 obtain⟨h1,h2⟩:=List.getElem?_eq_some_iff.1 h;rw[List.drop_eq_getElem_cons h1,Au,h2]
theorem Ci{M:Cr→Prop}(h: ∀o a b g n kids,(∀k,k∈kids→M k)→M (.mk o a b g n kids))(k:Cr):M k:=by
 have: ∀n k,Hv k≤n→M k:=by
  intro n
  induction n with
  |zero=>intro k hk;cases k;rw[Hv]at hk;omega
  |succ n ih=>
   intro k hk
   cases k with
   |mk o a b g z kids=>
    rw[Hv]at hk;exact h _ _ _ _ _ _ fun k hm=>ih k (by have:=RA hm;omega)
 exact this _ k (Nat.le_refl _)
theorem NZ{l:List Cr}{i:Nat}{k:Cr}(h:l[i]? =some k):k∈l:=List.mem_of_getElem? h
theorem VC{l:List Cr}{i:Nat}(h:l.length≤i):l.drop i=[]:=List.drop_eq_nil_of_le h
def JK(o:List Nat):List Nat×Int×Bool:=
 if [116,114,117,101]=o then([],0,true)else if [115,117,98]=o then([65,66],0,true)else if [115,105,110,103]=o then([65],0,true)else if [102,108,97,103]=o then([65],0,true)
 else if [110,111,110,101]=o then([65],0,true)else if [108,101,115,115]=o then([65,66],0,true)else if [112,108,117,115]=o then([65,66,78],0,true)else if [110,117,109]=o then([65,78],0,true)
 else if [117,110,105,111,110]=o then([65,66,67],0,true)else if [105,110,116,101,114]=o then([65,66,67],0,true)else if [109,105,110,117,115]=o then([65,66,67],0,true)
 else if [110,111,116]=o then([],1,true)else if [97,110,100]=o then([],2,true)else if [101,120]=o then([65],1,true)else([],0,false)
def JA(h:List Nat)(k:Nat)(v n:Int):Bool:=if k∈h then decide (0≤v)&&decide (v<n)else decide (v=0)
mutual
def Jm : Cr → Int → Bool
  | .mk o a b g n l, m => (JK o).2.2 && (decide (((l.length : Nat) : Int) = (JK o).2.1) && (JA (JK o).1 78 n 21 && (if o = [101, 120] then decide (a = m) && (decide (m < 6) && (decide (b = 0) && (decide (g = 0) && ZZ l (m + 1))))
    else JA (JK o).1 65 a m && (JA (JK o).1 66 b m && (JA (JK o).1 67 g m && ZZ l m)))))
def ZZ : List Cr → Int → Bool
  | [], _ => true
  | k :: l, m => Jm k m && ZZ l m
end
theorem LQ{l:List Cr}{m:Int}(h:ZZ l m=true){k:Cr}(hk:k∈l):Jm k m=true:=by
 induction l with
 |nil=>cases hk
 |cons x l ih=>
  rw[ZZ,Bool.and_eq_true]at h;rcases List.mem_cons.1 hk with rfl|hk
  ·exact h.1
  ·exact ih h.2 hk
def JT(ds:List Dc)(x:Nd):Cr×Int:=
 if(Uj x 2000&&QO x)=false∨JD x=true∨6<ds.length then(Kr,1)
 else if(UP ⟨ds,[],x⟩).2≠0 then(Kr,1)
 else if(Qh x ⟨ds.map Dc.name,false⟩).2.lg=true∨2000<Hv (Qh x ⟨ds.map Dc.name,false⟩).1 then(Kr,8)else((Qh x ⟨ds.map Dc.name,false⟩).1,0)
theorem RF{x:Nd}(h:Uj x 2000=true):XN x≤2000:=by
 simp only[Uj,Bool.and_eq_true,decide_eq_true_eq]at h;omega
theorem Kn: ∀l:List Nd,l.any JD=WQ l
 |[]=>rfl
 |k::l=>by rw[List.any_cons,WQ,Kn l]

theorem Tz (x : Cr) : ∀ (most : Int) (R : YN) (st : St) (cs : List AV), Qx st → XY R st.h.get → Z9 R x cs → 1 ≤ most → most ≤ 1000000 → ∃ v st', Ev Tryz.prog QT 113 [.agg cs, .int .i64 most] st v st' ∧ v = .int .i64 (min ((Hv x : Nat) : Int) most) ∧ Qt st st' := by
 refine Ci (M := fun x => ∀ (most : Int) (R : YN) (st : St) (cs : List AV), Qx st → XY R st.h.get → Z9 R x cs → 1 ≤ most → most ≤ 1000000 → ∃ v st', Ev Tryz.prog QT 113 [.agg cs, .int .i64 most] st v st' ∧ v = .int .i64 (min ((Hv x : Nat) : Int) most) ∧ Qt st st') (fun o a b g n l ih => ?_) x;intro most R st cs hf hR hr h1 h2;have hr0 := hr;obtain ⟨kc, ls, rfl, hK⟩ := hr.WE;have hln := hK.ln;have hbn := hK.UK;refine Q6 rfl Tryz.func113 rfl Tryz.ntmps113 rfl fun T hT => ?_;have K : Jf [(0, _), (1, _)] T := (.cons (hT 0) (.cons (hT 1) .nil));have M := Mem.start hf;refine Qo <| Qb ?_;refine QM K M rfl (Qa rfl (Qa rfl (Qa rfl (Qa rfl (Qa rfl (Qa hK.cell Qy)))))) (by decide) fun c2 _ _ K M => ?_;refine Qg 3 K M ?_;intro _ K;refine YI K rfl (fun h9 => ?_) fun h9 => ?_
 · refine Qg 1 K M ?_;intro _ K;refine Qf ⟨.inr rfl, _, J4 K rfl, ?_⟩
   first
    | (exfalso; omega)
    | (refine ⟨?_, M.qt⟩; rw [hinv]; congr 1; have hz : i = l.length := by omega
       rw [VC (by omega), Au]; omega)
    | (refine ⟨?_, M.qt⟩; rw [hinv]; congr 1; omega)
 refine Qg 3 K M ?_;intro _ K;refine o1 K (QF ZH rfl rfl hK.len) rfl fun _ K => ?_;refine Qg 1 K M ?_;intro _ K;refine UW (fun mm1 T st9 => ∃ (i : Nat) (m : Int), mm1 = l.length - i ∧ Jf [(1, .int .i64 most), (4, .int .i64 0), (5, .int .i64 m), (11, kc), (12, .int .i64 (((l.length : Nat) : Int))), (13, .int .i64 (((i : Nat) : Int)))] T ∧ Mem st.h.get st.n [] st9 [(c2, 0, [.str o, .int .i64 a, .int .i64 b, .int .i64 g, .int .i64 n, kc])] ∧ i ≤ l.length ∧ 1 ≤ m ∧ m ≤ most ∧ min (((Hv (.mk o a b g n l)) : Nat) : Int) most = min (m + ((Au (l.drop i) : Nat) : Int)) most) (fun mm1 T st9 hI => ?_) _ _ _ ⟨0, 1, rfl, (.cons (K _ _ rfl) (.cons (K _ _ rfl) (.cons (K _ _ rfl) (.cons (K _ _ rfl) (.cons (K _ _ rfl) (.cons (K _ _ rfl) .nil)))))), M.less (.refl _), (Nat.zero_le _), (by omega), h1, (by rw [Hv, List.drop_zero]; omega)⟩;obtain ⟨i, m, rfl, K, M, hi, hm1, hm2, hinv⟩ := hI;refine Qg 1 K M ?_;intro _ K;refine YI K rfl (fun h14 => ?_) fun h14 => ?_
 · refine QU ?_;show W _ _ _ _ _ _ _;refine Qo <| Yh <| Qo <| Qb ?_;obtain ⟨⟨o15, a15, b15, g15, n15, l15⟩, hi15⟩ : ∃ k, l[i]? = some k := ⟨_, List.getElem?_eq_getElem (by omega)⟩;have hm15 := NZ hi15;obtain ⟨_, hc15, hn15⟩ := hK.get hi15;have hp15 := hn15;obtain ⟨kc15, ls15, rfl, hK15⟩ := hp15.WE;obtain ⟨x15, m15, f15, q15, _, la15, lo15, lp15⟩ := (hK.r (M.XY hR)).load (i := i) (cs := _) hc15;refine o1 K (Qe (j := i) ZL (congrArg some q15) rfl (by rw [hK.ln]; omega)) rfl fun _ K => o1 K (Qr rfl (la15 _ Jb)) rfl fun _ K => ?_;refine UZ K M Ul (by decide) fun c7 _ _ K M => ?_;refine QI (k := 0) K M rfl rfl rfl Q3 rfl (Qa rfl (Qa rfl (Qa rfl (Qa rfl (Qa rfl (Qa hK15.cell Qy)))))) rfl fun _ M => ?_;refine Qg 3 K M ?_;intro _ K;refine YI K rfl (fun h19 => ?_) fun h19 => ?_
   · refine Uq ?_;show W _ _ _ _ _ _ _;refine Qg 2 K M ?_;intro _ K;refine Qf ⟨.inr rfl, _, J4 K rfl, ?_⟩
     first
      | (exfalso; omega)
      | (refine ⟨?_, M.qt⟩; rw [hinv]; congr 1; have hz : i = l.length := by omega
         rw [VC (by omega), Au]; omega)
      | (refine ⟨?_, M.qt⟩; rw [hinv]; congr 1; omega)
   refine Qg 4 K M ?_;intro _ K;refine o1 K (WB rfl rfl (by omega) (by omega)) rfl fun _ K => ?_;refine oQ K M (ih _ hm15 (most - m) R _ _ M.fresh (M.XY hR) hn15 (by omega) (by omega)) rfl rfl fun _ _ K M => ?_;refine o1 K (Jo rfl rfl (by omega) (by omega)) rfl fun _ K => ?_;refine Qg 1 K M ?_;intro _ K;refine o1 K (Jo rfl rfl (by omega) (by omega)) rfl fun _ K => o1 K (Qc rfl) rfl fun _ K => QG ?_;have hst := Lg hi15;have hsp := CN (.mk o15 a15 b15 g15 n15 l15);exact ⟨_, (by omega), i + 1, (m + min ((Hv (.mk o15 a15 b15 g15 n15 l15) : Nat) : Int) (most - m)), rfl, (.cons (K _ _ rfl) (.cons (K _ _ rfl) (.cons (K _ _ rfl) (.cons (K _ _ rfl) (.cons (K _ _ rfl) (.cons (K _ _ rfl) .nil)))))), M.less (.cons _ (.refl _)), (by omega), (by omega), (by omega), (by omega)⟩
 refine Uq ?_;show W _ _ _ _ _ _ _;refine Qg 2 K M ?_;intro _ K;refine Qf ⟨.inr rfl, _, J4 K rfl, ?_⟩
 first
  | (exfalso; omega)
  | (refine ⟨?_, M.qt⟩; rw [hinv]; congr 1; have hz : i = l.length := by omega
     rw [VC (by omega), Au]; omega)
  | (refine ⟨?_, M.qt⟩; rw [hinv]; congr 1; omega)

theorem DH (x : Cr) : ∀ (most : Int) (R : YN) (st : St) (cs : List AV), Qx st → XY R st.h.get → Z9 R x cs → 1 ≤ most → most ≤ 1000000 → ∃ v st', Ev Tryz.prog QT 114 [.agg cs, .int .i64 most] st v st' ∧ v = .int .i64 (min ((Hv x : Nat) : Int) most) ∧ Qt st st' := by
 refine Ci (M := fun x => ∀ (most : Int) (R : YN) (st : St) (cs : List AV), Qx st → XY R st.h.get → Z9 R x cs → 1 ≤ most → most ≤ 1000000 → ∃ v st', Ev Tryz.prog QT 114 [.agg cs, .int .i64 most] st v st' ∧ v = .int .i64 (min ((Hv x : Nat) : Int) most) ∧ Qt st st') (fun o a b g n l ih => ?_) x;intro most R st cs hf hR hr h1 h2;have hr0 := hr;obtain ⟨kc, ls, rfl, hK⟩ := hr.WE;have hln := hK.ln;have hbn := hK.UK;refine Q6 rfl Tryz.func114 rfl Tryz.ntmps114 rfl fun T hT => ?_;have K : Jf [(0, _), (1, _)] T := (.cons (hT 0) (.cons (hT 1) .nil));have M := Mem.start hf;refine Qo <| Qb ?_;refine QM K M rfl (Qa rfl (Qa rfl (Qa rfl (Qa rfl (Qa rfl (Qa hK.cell Qy)))))) (by decide) fun c2 _ _ K M => ?_;refine Qg 3 K M ?_;intro _ K;refine UW (fun mm1 T st9 => ∃ (i : Nat) (m : Int), mm1 = l.length - i ∧ Jf [(1, .int .i64 most), (2, .ptr c2 0 0), (4, .int .i64 0), (5, .int .i64 m), (6, .int .i64 (((i : Nat) : Int)))] T ∧ Mem st.h.get st.n [] st9 [(c2, 0, [.str o, .int .i64 a, .int .i64 b, .int .i64 g, .int .i64 n, kc])] ∧ i ≤ l.length ∧ 1 ≤ m ∧ m ≤ most ∧ min (((Hv (.mk o a b g n l)) : Nat) : Int) most = min (m + ((Au (l.drop i) : Nat) : Int)) most) (fun mm1 T st9 hI => ?_) _ _ _ ⟨0, 1, rfl, (.cons (K _ _ rfl) (.cons (K _ _ rfl) (.cons (K _ _ rfl) (.cons (K _ _ rfl) (.cons (K _ _ rfl) .nil))))), M.less (.refl _), (Nat.zero_le _), (by omega), h1, (by rw [Hv, List.drop_zero]; omega)⟩;obtain ⟨i, m, rfl, K, M, hi, hm1, hm2, hinv⟩ := hI;refine Qg 3 K M ?_;intro _ K;refine o1 K (QF ZH rfl rfl hK.len) rfl fun _ K => o1 K (NA rfl rfl) rfl fun _ K => ?_;refine oB K (Qc rfl) rfl fun b12 _ e12 K => ?_;cases b12
 · replace e12 := of_decide_eq_false e12;refine Qg 4 K M ?_;intro _ K;refine Qs (t := false) (K.QB rfl) (fun h => by cases h) (fun _ => ?_);refine Uq ?_;show W _ _ _ _ _ _ _;refine Qg 2 K M ?_;intro _ K;refine o1 K (Ix rfl rfl) rfl fun _ K => ?_;refine Qg 1 K M ?_;intro _ K;refine Qf ⟨.inr rfl, _, J4 K rfl, ?_⟩
   first
    | (exfalso; omega)
    | (refine ⟨?_, M.qt⟩; rw [hinv]; congr 1; have hz : i = l.length := by omega
       rw [VC (by omega), Au]; omega)
    | (refine ⟨?_, M.qt⟩; rw [hinv]; congr 1; omega)
 replace e12 := of_decide_eq_true e12;refine Qg 4 K M ?_;intro _ K;refine YI K rfl (fun h16 => ?_) fun h16 => ?_
 · refine Qg 4 K M ?_;intro _ K;obtain ⟨⟨o23, a23, b23, g23, n23, l23⟩, hi23⟩ : ∃ k, l[i]? = some k := ⟨_, List.getElem?_eq_getElem (by omega)⟩;have hm23 := NZ hi23;obtain ⟨_, hc23, hn23⟩ := hK.get hi23;have hp23 := hn23;obtain ⟨kc23, ls23, rfl, hK23⟩ := hp23.WE;obtain ⟨x23, m23, f23, q23, _, la23, lo23, lp23⟩ := (hK.r (M.XY hR)).load (i := i) (cs := _) hc23;refine o1 K (Qe (j := i) ZL (congrArg some q23) rfl (by rw [hK.ln]; omega)) rfl fun _ K => o1 K (Qr rfl (la23 _ Jb)) rfl fun _ K => ?_;refine Qg 2 K M ?_;intro _ K;refine o1 K (WB rfl rfl (by omega) (by omega)) rfl fun _ K => ?_;refine oQ K M (ih _ hm23 (most - m) R _ _ M.fresh (M.XY hR) hn23 (by omega) (by omega)) rfl rfl fun _ _ K M => ?_;refine o1 K (Jo rfl rfl (by omega) (by omega)) rfl fun _ K => ?_;refine Qg 2 K M ?_;intro _ K;refine o1 K (Jo rfl rfl (by omega) (by omega)) rfl fun _ K => o1 K (Qq rfl) rfl fun _ K => QG ?_;have hst := Lg hi23;have hsp := CN (.mk o23 a23 b23 g23 n23 l23);exact ⟨_, (by omega), i + 1, (m + min ((Hv (.mk o23 a23 b23 g23 n23 l23) : Nat) : Int) (most - m)), rfl, (.cons (K _ _ rfl) (.cons (K _ _ rfl) (.cons (K _ _ rfl) (.cons (K _ _ rfl) (.cons (K _ _ rfl) .nil))))), M.less (.refl _), (by omega), (by omega), (by omega), (by omega)⟩
 refine Uq ?_;show W _ _ _ _ _ _ _;refine Qg 2 K M ?_;intro _ K;refine o1 K (Ix rfl rfl) rfl fun _ K => ?_;refine Qg 1 K M ?_;intro _ K;refine Qf ⟨.inr rfl, _, J4 K rfl, ?_⟩
 first
  | (exfalso; omega)
  | (refine ⟨?_, M.qt⟩; rw [hinv]; congr 1; have hz : i = l.length := by omega
     rw [VC (by omega), Au]; omega)
  | (refine ⟨?_, M.qt⟩; rw [hinv]; congr 1; omega)

theorem PQ{R:YN}{st:St}(hf:Qx st)(hR:XY R st.h.get){o:List Nat}{a b g n:Int}{l:List Cr}{cs:List AV}(hr:Z9 R (.mk o a b g n l) cs): ∃v st',Ev Tryz.prog QT 62 [.agg cs] st v st'∧v=.int .i64 (min ((Hv (.mk o a b g n l):Nat):Int) 2001)∧Qt st st':=by
 have hr0:=hr;obtain⟨kc,ls,rfl,hK⟩:=hr.WE;have hln:=hK.ln;have hbn:=hK.UK;refine Q6 rfl Tryz.func62 rfl Tryz.ntmps62 rfl fun T hT=>?_;have K:Jf [(0,_)] T:=(.cons (hT 0) .nil);have M:=Mem.start hf;refine Qo<|Qb ?_;refine QM K M rfl (Qa rfl (Qa rfl (Qa rfl (Qa rfl (Qa rfl (Qa hK.cell Qy)))))) (by decide) fun c1 _ _ K M=>?_;refine Qg 2 K M ?_;intro _ K;refine oQ K M (Tz (.mk o a b g n l) 2001 R _ _ M.fresh (M.XY hR) hr0 (by decide) (by decide)) rfl rfl fun _ _ K M=>?_;refine Qg 1 K M ?_;intro _ K;refine Qf ⟨.inr rfl,_,J4 K rfl,?_⟩;exact⟨rfl,M.qt⟩

theorem DJ{R:YN}{st:St}(hf:Qx st)(hR:XY R st.h.get){o:List Nat}{a b g n:Int}{l:List Cr}{cs:List AV}(hr:Z9 R (.mk o a b g n l) cs): ∃v st',Ev Tryz.prog QT 63 [.agg cs] st v st'∧v=.int .i64 (min ((Hv (.mk o a b g n l):Nat):Int) 2001)∧Qt st st':=by
 have hr0:=hr;obtain⟨kc,ls,rfl,hK⟩:=hr.WE;have hln:=hK.ln;have hbn:=hK.UK;refine Q6 rfl Tryz.func63 rfl Tryz.ntmps63 rfl fun T hT=>?_;have K:Jf [(0,_)] T:=(.cons (hT 0) .nil);have M:=Mem.start hf;refine Qo<|Qb ?_;refine QM K M rfl (Qa rfl (Qa rfl (Qa rfl (Qa rfl (Qa rfl (Qa hK.cell Qy)))))) (by decide) fun c1 _ _ K M=>?_;refine Qg 2 K M ?_;intro _ K;refine oQ K M (DH (.mk o a b g n l) 2001 R _ _ M.fresh (M.XY hR) hr0 (by decide) (by decide)) rfl rfl fun _ _ K M=>?_;refine Qg 1 K M ?_;intro _ K;refine Qf ⟨.inr rfl,_,J4 K rfl,?_⟩;exact⟨rfl,M.qt⟩

theorem M7{st:St}(hf:Qx st)(o:List Nat): ∃v st',Ev Tryz.prog QT 115 [.str o] st v st'∧v=.tup [.str (JK o).1,.int .i64 (JK o).2.1,.bool (JK o).2.2]∧Qt st st':=by
 refine Q6 rfl Tryz.func115 rfl Tryz.ntmps115 rfl fun T hT=>?_;have K:Jf [(0,_)] T:=(.cons (hT 0) .nil);have M:=Mem.start hf;refine Qg 3 K M ?_;intro _ K;refine Am K M YZ Xw rfl rfl rfl rfl rfl fun c9 _ _ K M=>?_;replace M:Mem st.h.get st.n [] _ [(c9,0,[.str [116,114,117,101],.str [115,117,98],.str [115,105,110,103],.str [102,108,97,103],.str [110,111,110,101],.str [108,101,115,115],.str [112,108,117,115],.str [110,117,109],.str [117,110,105,111,110],.str [105,110,116,101,114],.str [109,105,110,117,115],.str [110,111,116],.str [97,110,100],.str [101,120]])]:=M;refine Qg 1 K M ?_;intro _ K;refine Am K M YZ Xw rfl rfl rfl rfl rfl fun c10 _ _ K M=>?_;replace M:Mem st.h.get st.n [] _ [(c10,0,[.str [],.str [65,66],.str [65],.str [65],.str [65],.str [65,66],.str [65,66,78],.str [65,78],.str [65,66,67],.str [65,66,67],.str [65,66,67],.str [],.str [],.str [65]]),(c9,0,[.str [116,114,117,101],.str [115,117,98],.str [115,105,110,103],.str [102,108,97,103],.str [110,111,110,101],.str [108,101,115,115],.str [112,108,117,115],.str [110,117,109],.str [117,110,105,111,110],.str [105,110,116,101,114],.str [109,105,110,117,115],.str [110,111,116],.str [97,110,100],.str [101,120]])]:=M;refine Qg 1 K M ?_;intro _ K;refine Am K M Ij Nf rfl rfl rfl rfl rfl fun c11 _ _ K M=>?_;refine Qg 2 K M ?_;intro _ K;refine Jk ?_;refine Qg 2 K M ?_;intro _ K;refine o1 K (QF Jg rfl rfl rfl) rfl fun _ K=>?_;refine Qg 1 K M ?_;intro _ K;refine Qs (K.QB rfl) (fun h15=>?_) (fun h15=>?_)
 ·have hb15:=h15;replace h15:=of_decide_eq_true h15;refine Qg 2 K M ?_;intro _ K;refine o1 K (Qe QC rfl rfl (by decide)) rfl fun _ K=>?_;refine Qg 3 K M ?_;intro _ K;refine Qs (K.QB rfl) (fun h23=>?_) (fun h23=>?_)
  ·have hb23:=h23;replace h23:=of_decide_eq_true h23;refine Qo ?_;refine JC (l:=[(0,0),(1,0),(2,0),(3,0),(4,0),(5,0),(6,0),(7,0),(8,0),(9,0),(10,0)]) (by kernel_rfl) ?_;refine d1 rfl K (Qc rfl) rfl rfl fun _ K=>d1 rfl K (Qc rfl) rfl rfl fun _ K=>d1 rfl K (Qe QC rfl rfl (by decide)) rfl rfl fun _ K=>d1 rfl K (Qr rfl (M.load (k:=1) rfl (Qw QY rfl))) rfl rfl fun _ K=>d1 rfl K (Qc rfl) rfl rfl fun _ K=>d1 rfl K (Qc rfl) rfl rfl fun _ K=>d1 rfl K (Qe Ud rfl rfl (by decide)) rfl rfl fun _ K=>d1 rfl K (Qr rfl (M.load (k:=0) rfl (Qw JP rfl))) rfl rfl fun _ K=>d1 rfl K (Qq rfl) rfl rfl fun _ K=>?_;refine d1 rfl K (Qq rfl) rfl rfl fun _ K=>d1 rfl K (Qq rfl) rfl rfl fun _ K=>Ui ?_;show W _ _ _ _ _ _ _;refine Qf ⟨.inr rfl,_,(Jv (Q5 K rfl) (Q5 K rfl) (Q5 K rfl)),?_⟩;refine⟨?_,M.qt⟩;unfold JK
   first|(simp_all;done)|(simp_all;rfl)
  have hb23:=h23;replace h23:=of_decide_eq_false h23;refine Qg 1 K M ?_;intro _ K;refine o1 K (Jo rfl rfl (by omega) (by omega)) rfl fun _ K=>?_;refine Qg 1 K M ?_;intro _ K;refine Jk ?_;refine Qg 2 K M ?_;intro _ K;refine o1 K (QF Jg rfl rfl rfl) rfl fun _ K=>?_;refine Qg 1 K M ?_;intro _ K;refine Qs (K.QB rfl) (fun h15=>?_) (fun h15=>?_)
  ·have hb15:=h15;replace h15:=of_decide_eq_true h15;refine Qg 2 K M ?_;intro _ K;refine o1 K (Qe QC rfl rfl (by decide)) rfl fun _ K=>?_;refine Qg 3 K M ?_;intro _ K;refine Qs (K.QB rfl) (fun h23=>?_) (fun h23=>?_)
   ·have hb23:=h23;replace h23:=of_decide_eq_true h23;refine Qo ?_;refine JC (l:=[(0,0),(1,0),(2,0),(3,0),(4,0),(5,0),(6,0),(7,0),(8,0),(9,0),(10,0)]) (by kernel_rfl) ?_;refine d1 rfl K (Qc rfl) rfl rfl fun _ K=>d1 rfl K (Qc rfl) rfl rfl fun _ K=>d1 rfl K (Qe QC rfl rfl (by decide)) rfl rfl fun _ K=>d1 rfl K (Qr rfl (M.load (k:=1) rfl (Qw QY rfl))) rfl rfl fun _ K=>d1 rfl K (Qc rfl) rfl rfl fun _ K=>d1 rfl K (Qc rfl) rfl rfl fun _ K=>d1 rfl K (Qe Ud rfl rfl (by decide)) rfl rfl fun _ K=>d1 rfl K (Qr rfl (M.load (k:=0) rfl (Qw JP rfl))) rfl rfl fun _ K=>d1 rfl K (Qq rfl) rfl rfl fun _ K=>?_;refine d1 rfl K (Qq rfl) rfl rfl fun _ K=>d1 rfl K (Qq rfl) rfl rfl fun _ K=>Ui ?_;show W _ _ _ _ _ _ _;refine Qf ⟨.inr rfl,_,(Jv (Q5 K rfl) (Q5 K rfl) (Q5 K rfl)),?_⟩;refine⟨?_,M.qt⟩;unfold JK
    first|(simp_all;done)|(simp_all;rfl)
   have hb23:=h23;replace h23:=of_decide_eq_false h23;refine Qg 1 K M ?_;intro _ K;refine o1 K (Jo rfl rfl (by omega) (by omega)) rfl fun _ K=>?_;refine Qg 1 K M ?_;intro _ K;refine Jk ?_;refine Qg 2 K M ?_;intro _ K;refine o1 K (QF Jg rfl rfl rfl) rfl fun _ K=>?_;refine Qg 1 K M ?_;intro _ K;refine Qs (K.QB rfl) (fun h15=>?_) (fun h15=>?_)
   ·have hb15:=h15;replace h15:=of_decide_eq_true h15;refine Qg 2 K M ?_;intro _ K;refine o1 K (Qe QC rfl rfl (by decide)) rfl fun _ K=>?_;refine Qg 3 K M ?_;intro _ K;refine Qs (K.QB rfl) (fun h23=>?_) (fun h23=>?_)
    ·have hb23:=h23;replace h23:=of_decide_eq_true h23;refine Qo ?_;refine JC (l:=[(0,0),(1,0),(2,0),(3,0),(4,0),(5,0),(6,0),(7,0),(8,0),(9,0),(10,0)]) (by kernel_rfl) ?_;refine d1 rfl K (Qc rfl) rfl rfl fun _ K=>d1 rfl K (Qc rfl) rfl rfl fun _ K=>d1 rfl K (Qe QC rfl rfl (by decide)) rfl rfl fun _ K=>d1 rfl K (Qr rfl (M.load (k:=1) rfl (Qw QY rfl))) rfl rfl fun _ K=>d1 rfl K (Qc rfl) rfl rfl fun _ K=>d1 rfl K (Qc rfl) rfl rfl fun _ K=>d1 rfl K (Qe Ud rfl rfl (by decide)) rfl rfl fun _ K=>d1 rfl K (Qr rfl (M.load (k:=0) rfl (Qw JP rfl))) rfl rfl fun _ K=>d1 rfl K (Qq rfl) rfl rfl fun _ K=>?_;refine d1 rfl K (Qq rfl) rfl rfl fun _ K=>d1 rfl K (Qq rfl) rfl rfl fun _ K=>Ui ?_;show W _ _ _ _ _ _ _;refine Qf ⟨.inr rfl,_,(Jv (Q5 K rfl) (Q5 K rfl) (Q5 K rfl)),?_⟩;refine⟨?_,M.qt⟩;unfold JK
     first|(simp_all;done)|(simp_all;rfl)
    have hb23:=h23;replace h23:=of_decide_eq_false h23;refine Qg 1 K M ?_;intro _ K;refine o1 K (Jo rfl rfl (by omega) (by omega)) rfl fun _ K=>?_;refine Qg 1 K M ?_;intro _ K;refine Jk ?_;refine Qg 2 K M ?_;intro _ K;refine o1 K (QF Jg rfl rfl rfl) rfl fun _ K=>?_;refine Qg 1 K M ?_;intro _ K;refine Qs (K.QB rfl) (fun h15=>?_) (fun h15=>?_)
    ·have hb15:=h15;replace h15:=of_decide_eq_true h15;refine Qg 2 K M ?_;intro _ K;refine o1 K (Qe QC rfl rfl (by decide)) rfl fun _ K=>?_;refine Qg 3 K M ?_;intro _ K;refine Qs (K.QB rfl) (fun h23=>?_) (fun h23=>?_)
     ·have hb23:=h23;replace h23:=of_decide_eq_true h23;refine Qo ?_;refine JC (l:=[(0,0),(1,0),(2,0),(3,0),(4,0),(5,0),(6,0),(7,0),(8,0),(9,0),(10,0)]) (by kernel_rfl) ?_;refine d1 rfl K (Qc rfl) rfl rfl fun _ K=>d1 rfl K (Qc rfl) rfl rfl fun _ K=>d1 rfl K (Qe QC rfl rfl (by decide)) rfl rfl fun _ K=>d1 rfl K (Qr rfl (M.load (k:=1) rfl (Qw QY rfl))) rfl rfl fun _ K=>d1 rfl K (Qc rfl) rfl rfl fun _ K=>d1 rfl K (Qc rfl) rfl rfl fun _ K=>d1 rfl K (Qe Ud rfl rfl (by decide)) rfl rfl fun _ K=>d1 rfl K (Qr rfl (M.load (k:=0) rfl (Qw JP rfl))) rfl rfl fun _ K=>d1 rfl K (Qq rfl) rfl rfl fun _ K=>?_;refine d1 rfl K (Qq rfl) rfl rfl fun _ K=>d1 rfl K (Qq rfl) rfl rfl fun _ K=>Ui ?_;show W _ _ _ _ _ _ _;refine Qf ⟨.inr rfl,_,(Jv (Q5 K rfl) (Q5 K rfl) (Q5 K rfl)),?_⟩;refine⟨?_,M.qt⟩;unfold JK
      first|(simp_all;done)|(simp_all;rfl)
     have hb23:=h23;replace h23:=of_decide_eq_false h23;refine Qg 1 K M ?_;intro _ K;refine o1 K (Jo rfl rfl (by omega) (by omega)) rfl fun _ K=>?_;refine Qg 1 K M ?_;intro _ K;refine Jk ?_;refine Qg 2 K M ?_;intro _ K;refine o1 K (QF Jg rfl rfl rfl) rfl fun _ K=>?_;refine Qg 1 K M ?_;intro _ K;refine Qs (K.QB rfl) (fun h15=>?_) (fun h15=>?_)
     ·have hb15:=h15;replace h15:=of_decide_eq_true h15;refine Qg 2 K M ?_;intro _ K;refine o1 K (Qe QC rfl rfl (by decide)) rfl fun _ K=>?_;refine Qg 3 K M ?_;intro _ K;refine Qs (K.QB rfl) (fun h23=>?_) (fun h23=>?_)
      ·have hb23:=h23;replace h23:=of_decide_eq_true h23;refine Qo ?_;refine JC (l:=[(0,0),(1,0),(2,0),(3,0),(4,0),(5,0),(6,0),(7,0),(8,0),(9,0),(10,0)]) (by kernel_rfl) ?_;refine d1 rfl K (Qc rfl) rfl rfl fun _ K=>d1 rfl K (Qc rfl) rfl rfl fun _ K=>d1 rfl K (Qe QC rfl rfl (by decide)) rfl rfl fun _ K=>d1 rfl K (Qr rfl (M.load (k:=1) rfl (Qw QY rfl))) rfl rfl fun _ K=>d1 rfl K (Qc rfl) rfl rfl fun _ K=>d1 rfl K (Qc rfl) rfl rfl fun _ K=>d1 rfl K (Qe Ud rfl rfl (by decide)) rfl rfl fun _ K=>d1 rfl K (Qr rfl (M.load (k:=0) rfl (Qw JP rfl))) rfl rfl fun _ K=>d1 rfl K (Qq rfl) rfl rfl fun _ K=>?_;refine d1 rfl K (Qq rfl) rfl rfl fun _ K=>d1 rfl K (Qq rfl) rfl rfl fun _ K=>Ui ?_;show W _ _ _ _ _ _ _;refine Qf ⟨.inr rfl,_,(Jv (Q5 K rfl) (Q5 K rfl) (Q5 K rfl)),?_⟩;refine⟨?_,M.qt⟩;unfold JK
       first|(simp_all;done)|(simp_all;rfl)
      have hb23:=h23;replace h23:=of_decide_eq_false h23;refine Qg 1 K M ?_;intro _ K;refine o1 K (Jo rfl rfl (by omega) (by omega)) rfl fun _ K=>?_;refine Qg 1 K M ?_;intro _ K;refine Jk ?_;refine Qg 2 K M ?_;intro _ K;refine o1 K (QF Jg rfl rfl rfl) rfl fun _ K=>?_;refine Qg 1 K M ?_;intro _ K;refine Qs (K.QB rfl) (fun h15=>?_) (fun h15=>?_)
      ·have hb15:=h15;replace h15:=of_decide_eq_true h15;refine Qg 2 K M ?_;intro _ K;refine o1 K (Qe QC rfl rfl (by decide)) rfl fun _ K=>?_;refine Qg 3 K M ?_;intro _ K;refine Qs (K.QB rfl) (fun h23=>?_) (fun h23=>?_)
       ·have hb23:=h23;replace h23:=of_decide_eq_true h23;refine Qo ?_;refine JC (l:=[(0,0),(1,0),(2,0),(3,0),(4,0),(5,0),(6,0),(7,0),(8,0),(9,0),(10,0)]) (by kernel_rfl) ?_;refine d1 rfl K (Qc rfl) rfl rfl fun _ K=>d1 rfl K (Qc rfl) rfl rfl fun _ K=>d1 rfl K (Qe QC rfl rfl (by decide)) rfl rfl fun _ K=>d1 rfl K (Qr rfl (M.load (k:=1) rfl (Qw QY rfl))) rfl rfl fun _ K=>d1 rfl K (Qc rfl) rfl rfl fun _ K=>d1 rfl K (Qc rfl) rfl rfl fun _ K=>d1 rfl K (Qe Ud rfl rfl (by decide)) rfl rfl fun _ K=>d1 rfl K (Qr rfl (M.load (k:=0) rfl (Qw JP rfl))) rfl rfl fun _ K=>d1 rfl K (Qq rfl) rfl rfl fun _ K=>?_;refine d1 rfl K (Qq rfl) rfl rfl fun _ K=>d1 rfl K (Qq rfl) rfl rfl fun _ K=>Ui ?_;show W _ _ _ _ _ _ _;refine Qf ⟨.inr rfl,_,(Jv (Q5 K rfl) (Q5 K rfl) (Q5 K rfl)),?_⟩;refine⟨?_,M.qt⟩;unfold JK
        first|(simp_all;done)|(simp_all;rfl)
       have hb23:=h23;replace h23:=of_decide_eq_false h23;refine Qg 1 K M ?_;intro _ K;refine o1 K (Jo rfl rfl (by omega) (by omega)) rfl fun _ K=>?_;refine Qg 1 K M ?_;intro _ K;refine Jk ?_;refine Qg 2 K M ?_;intro _ K;refine o1 K (QF Jg rfl rfl rfl) rfl fun _ K=>?_;refine Qg 1 K M ?_;intro _ K;refine Qs (K.QB rfl) (fun h15=>?_) (fun h15=>?_)
       ·have hb15:=h15;replace h15:=of_decide_eq_true h15;refine Qg 2 K M ?_;intro _ K;refine o1 K (Qe QC rfl rfl (by decide)) rfl fun _ K=>?_;refine Qg 3 K M ?_;intro _ K;refine Qs (K.QB rfl) (fun h23=>?_) (fun h23=>?_)
        ·have hb23:=h23;replace h23:=of_decide_eq_true h23;refine Qo ?_;refine JC (l:=[(0,0),(1,0),(2,0),(3,0),(4,0),(5,0),(6,0),(7,0),(8,0),(9,0),(10,0)]) (by kernel_rfl) ?_;refine d1 rfl K (Qc rfl) rfl rfl fun _ K=>d1 rfl K (Qc rfl) rfl rfl fun _ K=>d1 rfl K (Qe QC rfl rfl (by decide)) rfl rfl fun _ K=>d1 rfl K (Qr rfl (M.load (k:=1) rfl (Qw QY rfl))) rfl rfl fun _ K=>d1 rfl K (Qc rfl) rfl rfl fun _ K=>d1 rfl K (Qc rfl) rfl rfl fun _ K=>d1 rfl K (Qe Ud rfl rfl (by decide)) rfl rfl fun _ K=>d1 rfl K (Qr rfl (M.load (k:=0) rfl (Qw JP rfl))) rfl rfl fun _ K=>d1 rfl K (Qq rfl) rfl rfl fun _ K=>?_;refine d1 rfl K (Qq rfl) rfl rfl fun _ K=>d1 rfl K (Qq rfl) rfl rfl fun _ K=>Ui ?_;show W _ _ _ _ _ _ _;refine Qf ⟨.inr rfl,_,(Jv (Q5 K rfl) (Q5 K rfl) (Q5 K rfl)),?_⟩;refine⟨?_,M.qt⟩;unfold JK
         first|(simp_all;done)|(simp_all;rfl)
        have hb23:=h23;replace h23:=of_decide_eq_false h23;refine Qg 1 K M ?_;intro _ K;refine o1 K (Jo rfl rfl (by omega) (by omega)) rfl fun _ K=>?_;refine Qg 1 K M ?_;intro _ K;refine Jk ?_;refine Qg 2 K M ?_;intro _ K;refine o1 K (QF Jg rfl rfl rfl) rfl fun _ K=>?_;refine Qg 1 K M ?_;intro _ K;refine Qs (K.QB rfl) (fun h15=>?_) (fun h15=>?_)
        ·have hb15:=h15;replace h15:=of_decide_eq_true h15;refine Qg 2 K M ?_;intro _ K;refine o1 K (Qe QC rfl rfl (by decide)) rfl fun _ K=>?_;refine Qg 3 K M ?_;intro _ K;refine Qs (K.QB rfl) (fun h23=>?_) (fun h23=>?_)
         ·have hb23:=h23;replace h23:=of_decide_eq_true h23;refine Qo ?_;refine JC (l:=[(0,0),(1,0),(2,0),(3,0),(4,0),(5,0),(6,0),(7,0),(8,0),(9,0),(10,0)]) (by kernel_rfl) ?_;refine d1 rfl K (Qc rfl) rfl rfl fun _ K=>d1 rfl K (Qc rfl) rfl rfl fun _ K=>d1 rfl K (Qe QC rfl rfl (by decide)) rfl rfl fun _ K=>d1 rfl K (Qr rfl (M.load (k:=1) rfl (Qw QY rfl))) rfl rfl fun _ K=>d1 rfl K (Qc rfl) rfl rfl fun _ K=>d1 rfl K (Qc rfl) rfl rfl fun _ K=>d1 rfl K (Qe Ud rfl rfl (by decide)) rfl rfl fun _ K=>d1 rfl K (Qr rfl (M.load (k:=0) rfl (Qw JP rfl))) rfl rfl fun _ K=>d1 rfl K (Qq rfl) rfl rfl fun _ K=>?_;refine d1 rfl K (Qq rfl) rfl rfl fun _ K=>d1 rfl K (Qq rfl) rfl rfl fun _ K=>Ui ?_;show W _ _ _ _ _ _ _;refine Qf ⟨.inr rfl,_,(Jv (Q5 K rfl) (Q5 K rfl) (Q5 K rfl)),?_⟩;refine⟨?_,M.qt⟩;unfold JK
          first|(simp_all;done)|(simp_all;rfl)
         have hb23:=h23;replace h23:=of_decide_eq_false h23;refine Qg 1 K M ?_;intro _ K;refine o1 K (Jo rfl rfl (by omega) (by omega)) rfl fun _ K=>?_;refine Qg 1 K M ?_;intro _ K;refine Jk ?_;refine Qg 2 K M ?_;intro _ K;refine o1 K (QF Jg rfl rfl rfl) rfl fun _ K=>?_;refine Qg 1 K M ?_;intro _ K;refine Qs (K.QB rfl) (fun h15=>?_) (fun h15=>?_)
         ·have hb15:=h15;replace h15:=of_decide_eq_true h15;refine Qg 2 K M ?_;intro _ K;refine o1 K (Qe QC rfl rfl (by decide)) rfl fun _ K=>?_;refine Qg 3 K M ?_;intro _ K;refine Qs (K.QB rfl) (fun h23=>?_) (fun h23=>?_)
          ·have hb23:=h23;replace h23:=of_decide_eq_true h23;refine Qo ?_;refine JC (l:=[(0,0),(1,0),(2,0),(3,0),(4,0),(5,0),(6,0),(7,0),(8,0),(9,0),(10,0)]) (by kernel_rfl) ?_;refine d1 rfl K (Qc rfl) rfl rfl fun _ K=>d1 rfl K (Qc rfl) rfl rfl fun _ K=>d1 rfl K (Qe QC rfl rfl (by decide)) rfl rfl fun _ K=>d1 rfl K (Qr rfl (M.load (k:=1) rfl (Qw QY rfl))) rfl rfl fun _ K=>d1 rfl K (Qc rfl) rfl rfl fun _ K=>d1 rfl K (Qc rfl) rfl rfl fun _ K=>d1 rfl K (Qe Ud rfl rfl (by decide)) rfl rfl fun _ K=>d1 rfl K (Qr rfl (M.load (k:=0) rfl (Qw JP rfl))) rfl rfl fun _ K=>d1 rfl K (Qq rfl) rfl rfl fun _ K=>?_;refine d1 rfl K (Qq rfl) rfl rfl fun _ K=>d1 rfl K (Qq rfl) rfl rfl fun _ K=>Ui ?_;show W _ _ _ _ _ _ _;refine Qf ⟨.inr rfl,_,(Jv (Q5 K rfl) (Q5 K rfl) (Q5 K rfl)),?_⟩;refine⟨?_,M.qt⟩;unfold JK
           first|(simp_all;done)|(simp_all;rfl)
          have hb23:=h23;replace h23:=of_decide_eq_false h23;refine Qg 1 K M ?_;intro _ K;refine o1 K (Jo rfl rfl (by omega) (by omega)) rfl fun _ K=>?_;refine Qg 1 K M ?_;intro _ K;refine Jk ?_;refine Qg 2 K M ?_;intro _ K;refine o1 K (QF Jg rfl rfl rfl) rfl fun _ K=>?_;refine Qg 1 K M ?_;intro _ K;refine Qs (K.QB rfl) (fun h15=>?_) (fun h15=>?_)
          ·have hb15:=h15;replace h15:=of_decide_eq_true h15;refine Qg 2 K M ?_;intro _ K;refine o1 K (Qe QC rfl rfl (by decide)) rfl fun _ K=>?_;refine Qg 3 K M ?_;intro _ K;refine Qs (K.QB rfl) (fun h23=>?_) (fun h23=>?_)
           ·have hb23:=h23;replace h23:=of_decide_eq_true h23;refine Qo ?_;refine JC (l:=[(0,0),(1,0),(2,0),(3,0),(4,0),(5,0),(6,0),(7,0),(8,0),(9,0),(10,0)]) (by kernel_rfl) ?_;refine d1 rfl K (Qc rfl) rfl rfl fun _ K=>d1 rfl K (Qc rfl) rfl rfl fun _ K=>d1 rfl K (Qe QC rfl rfl (by decide)) rfl rfl fun _ K=>d1 rfl K (Qr rfl (M.load (k:=1) rfl (Qw QY rfl))) rfl rfl fun _ K=>d1 rfl K (Qc rfl) rfl rfl fun _ K=>d1 rfl K (Qc rfl) rfl rfl fun _ K=>d1 rfl K (Qe Ud rfl rfl (by decide)) rfl rfl fun _ K=>d1 rfl K (Qr rfl (M.load (k:=0) rfl (Qw JP rfl))) rfl rfl fun _ K=>d1 rfl K (Qq rfl) rfl rfl fun _ K=>?_;refine d1 rfl K (Qq rfl) rfl rfl fun _ K=>d1 rfl K (Qq rfl) rfl rfl fun _ K=>Ui ?_;show W _ _ _ _ _ _ _;refine Qf ⟨.inr rfl,_,(Jv (Q5 K rfl) (Q5 K rfl) (Q5 K rfl)),?_⟩;refine⟨?_,M.qt⟩;unfold JK
            first|(simp_all;done)|(simp_all;rfl)
           have hb23:=h23;replace h23:=of_decide_eq_false h23;refine Qg 1 K M ?_;intro _ K;refine o1 K (Jo rfl rfl (by omega) (by omega)) rfl fun _ K=>?_;refine Qg 1 K M ?_;intro _ K;refine Jk ?_;refine Qg 2 K M ?_;intro _ K;refine o1 K (QF Jg rfl rfl rfl) rfl fun _ K=>?_;refine Qg 1 K M ?_;intro _ K;refine Qs (K.QB rfl) (fun h15=>?_) (fun h15=>?_)
           ·have hb15:=h15;replace h15:=of_decide_eq_true h15;refine Qg 2 K M ?_;intro _ K;refine o1 K (Qe QC rfl rfl (by decide)) rfl fun _ K=>?_;refine Qg 3 K M ?_;intro _ K;refine Qs (K.QB rfl) (fun h23=>?_) (fun h23=>?_)
            ·have hb23:=h23;replace h23:=of_decide_eq_true h23;refine Qo ?_;refine JC (l:=[(0,0),(1,0),(2,0),(3,0),(4,0),(5,0),(6,0),(7,0),(8,0),(9,0),(10,0)]) (by kernel_rfl) ?_;refine d1 rfl K (Qc rfl) rfl rfl fun _ K=>d1 rfl K (Qc rfl) rfl rfl fun _ K=>d1 rfl K (Qe QC rfl rfl (by decide)) rfl rfl fun _ K=>d1 rfl K (Qr rfl (M.load (k:=1) rfl (Qw QY rfl))) rfl rfl fun _ K=>d1 rfl K (Qc rfl) rfl rfl fun _ K=>d1 rfl K (Qc rfl) rfl rfl fun _ K=>d1 rfl K (Qe Ud rfl rfl (by decide)) rfl rfl fun _ K=>d1 rfl K (Qr rfl (M.load (k:=0) rfl (Qw JP rfl))) rfl rfl fun _ K=>d1 rfl K (Qq rfl) rfl rfl fun _ K=>?_;refine d1 rfl K (Qq rfl) rfl rfl fun _ K=>d1 rfl K (Qq rfl) rfl rfl fun _ K=>Ui ?_;show W _ _ _ _ _ _ _;refine Qf ⟨.inr rfl,_,(Jv (Q5 K rfl) (Q5 K rfl) (Q5 K rfl)),?_⟩;refine⟨?_,M.qt⟩;unfold JK
             first|(simp_all;done)|(simp_all;rfl)
            have hb23:=h23;replace h23:=of_decide_eq_false h23;refine Qg 1 K M ?_;intro _ K;refine o1 K (Jo rfl rfl (by omega) (by omega)) rfl fun _ K=>?_;refine Qg 1 K M ?_;intro _ K;refine Jk ?_;refine Qg 2 K M ?_;intro _ K;refine o1 K (QF Jg rfl rfl rfl) rfl fun _ K=>?_;refine Qg 1 K M ?_;intro _ K;refine Qs (K.QB rfl) (fun h15=>?_) (fun h15=>?_)
            ·have hb15:=h15;replace h15:=of_decide_eq_true h15;refine Qg 2 K M ?_;intro _ K;refine o1 K (Qe QC rfl rfl (by decide)) rfl fun _ K=>?_;refine Qg 3 K M ?_;intro _ K;refine Qs (K.QB rfl) (fun h23=>?_) (fun h23=>?_)
             ·have hb23:=h23;replace h23:=of_decide_eq_true h23;refine Qo ?_;refine JC (l:=[(0,0),(1,0),(2,0),(3,0),(4,0),(5,0),(6,0),(7,0),(8,0),(9,0),(10,0)]) (by kernel_rfl) ?_;refine d1 rfl K (Qc rfl) rfl rfl fun _ K=>d1 rfl K (Qc rfl) rfl rfl fun _ K=>d1 rfl K (Qe QC rfl rfl (by decide)) rfl rfl fun _ K=>d1 rfl K (Qr rfl (M.load (k:=1) rfl (Qw QY rfl))) rfl rfl fun _ K=>d1 rfl K (Qc rfl) rfl rfl fun _ K=>d1 rfl K (Qc rfl) rfl rfl fun _ K=>d1 rfl K (Qe Ud rfl rfl (by decide)) rfl rfl fun _ K=>d1 rfl K (Qr rfl (M.load (k:=0) rfl (Qw JP rfl))) rfl rfl fun _ K=>d1 rfl K (Qq rfl) rfl rfl fun _ K=>?_;refine d1 rfl K (Qq rfl) rfl rfl fun _ K=>d1 rfl K (Qq rfl) rfl rfl fun _ K=>Ui ?_;show W _ _ _ _ _ _ _;refine Qf ⟨.inr rfl,_,(Jv (Q5 K rfl) (Q5 K rfl) (Q5 K rfl)),?_⟩;refine⟨?_,M.qt⟩;unfold JK
              first|(simp_all;done)|(simp_all;rfl)
             have hb23:=h23;replace h23:=of_decide_eq_false h23;refine Qg 1 K M ?_;intro _ K;refine o1 K (Jo rfl rfl (by omega) (by omega)) rfl fun _ K=>?_;refine Qg 1 K M ?_;intro _ K;refine Jk ?_;refine Qg 2 K M ?_;intro _ K;refine o1 K (QF Jg rfl rfl rfl) rfl fun _ K=>?_;refine Qg 1 K M ?_;intro _ K;refine Qs (K.QB rfl) (fun h15=>?_) (fun h15=>?_)
             ·have hb15:=h15;replace h15:=of_decide_eq_true h15;refine Qg 2 K M ?_;intro _ K;refine o1 K (Qe QC rfl rfl (by decide)) rfl fun _ K=>?_;refine Qg 3 K M ?_;intro _ K;refine Qs (K.QB rfl) (fun h23=>?_) (fun h23=>?_)
              ·have hb23:=h23;replace h23:=of_decide_eq_true h23;refine Qo ?_;refine JC (l:=[(0,0),(1,0),(2,0),(3,0),(4,0),(5,0),(6,0),(7,0),(8,0),(9,0),(10,0)]) (by kernel_rfl) ?_;refine d1 rfl K (Qc rfl) rfl rfl fun _ K=>d1 rfl K (Qc rfl) rfl rfl fun _ K=>d1 rfl K (Qe QC rfl rfl (by decide)) rfl rfl fun _ K=>d1 rfl K (Qr rfl (M.load (k:=1) rfl (Qw QY rfl))) rfl rfl fun _ K=>d1 rfl K (Qc rfl) rfl rfl fun _ K=>d1 rfl K (Qc rfl) rfl rfl fun _ K=>d1 rfl K (Qe Ud rfl rfl (by decide)) rfl rfl fun _ K=>d1 rfl K (Qr rfl (M.load (k:=0) rfl (Qw JP rfl))) rfl rfl fun _ K=>d1 rfl K (Qq rfl) rfl rfl fun _ K=>?_;refine d1 rfl K (Qq rfl) rfl rfl fun _ K=>d1 rfl K (Qq rfl) rfl rfl fun _ K=>Ui ?_;show W _ _ _ _ _ _ _;refine Qf ⟨.inr rfl,_,(Jv (Q5 K rfl) (Q5 K rfl) (Q5 K rfl)),?_⟩;refine⟨?_,M.qt⟩;unfold JK
               first|(simp_all;done)|(simp_all;rfl)
              have hb23:=h23;replace h23:=of_decide_eq_false h23;refine Qg 1 K M ?_;intro _ K;refine o1 K (Jo rfl rfl (by omega) (by omega)) rfl fun _ K=>?_;refine Qg 1 K M ?_;intro _ K;refine Jk ?_;refine Qg 2 K M ?_;intro _ K;refine o1 K (QF Jg rfl rfl rfl) rfl fun _ K=>?_;refine Qg 1 K M ?_;intro _ K;refine Qs (K.QB rfl) (fun h15=>?_) (fun h15=>?_)
              ·have hb15:=h15;replace h15:=of_decide_eq_true h15;refine Qg 2 K M ?_;intro _ K;refine o1 K (Qe QC rfl rfl (by decide)) rfl fun _ K=>?_;refine Qg 3 K M ?_;intro _ K;refine Qs (K.QB rfl) (fun h23=>?_) (fun h23=>?_)
               ·have hb23:=h23;replace h23:=of_decide_eq_true h23;refine Qo ?_;refine JC (l:=[(0,0),(1,0),(2,0),(3,0),(4,0),(5,0),(6,0),(7,0),(8,0),(9,0),(10,0)]) (by kernel_rfl) ?_;refine d1 rfl K (Qc rfl) rfl rfl fun _ K=>d1 rfl K (Qc rfl) rfl rfl fun _ K=>d1 rfl K (Qe QC rfl rfl (by decide)) rfl rfl fun _ K=>d1 rfl K (Qr rfl (M.load (k:=1) rfl (Qw QY rfl))) rfl rfl fun _ K=>d1 rfl K (Qc rfl) rfl rfl fun _ K=>d1 rfl K (Qc rfl) rfl rfl fun _ K=>d1 rfl K (Qe Ud rfl rfl (by decide)) rfl rfl fun _ K=>d1 rfl K (Qr rfl (M.load (k:=0) rfl (Qw JP rfl))) rfl rfl fun _ K=>d1 rfl K (Qq rfl) rfl rfl fun _ K=>?_;refine d1 rfl K (Qq rfl) rfl rfl fun _ K=>d1 rfl K (Qq rfl) rfl rfl fun _ K=>Ui ?_;show W _ _ _ _ _ _ _;refine Qf ⟨.inr rfl,_,(Jv (Q5 K rfl) (Q5 K rfl) (Q5 K rfl)),?_⟩;refine⟨?_,M.qt⟩;unfold JK
                first|(simp_all;done)|(simp_all;rfl)
               have hb23:=h23;replace h23:=of_decide_eq_false h23;refine Qg 1 K M ?_;intro _ K;refine o1 K (Jo rfl rfl (by omega) (by omega)) rfl fun _ K=>?_;refine Qg 1 K M ?_;intro _ K;refine Jk ?_;refine Qg 2 K M ?_;intro _ K;refine o1 K (QF Jg rfl rfl rfl) rfl fun _ K=>?_;refine Qg 1 K M ?_;intro _ K;refine Qs (K.QB rfl) (fun h15=>?_) (fun h15=>?_)
               ·have hb15:=h15;replace h15:=of_decide_eq_true h15
                exfalso;omega
               have hb15:=h15;replace h15:=of_decide_eq_false h15;refine Uq ?_;show W _ _ _ _ _ _ _;refine Qg 3 K M ?_;intro _ K;refine Qf ⟨.inr rfl,_,(Jv (Q5 K rfl) (Q5 K rfl) (Q5 K rfl)),?_⟩;refine⟨?_,M.qt⟩;unfold JK
               first|(simp_all;done)|(simp_all;rfl)
              have hb15:=h15;replace h15:=of_decide_eq_false h15
              exfalso;omega
             have hb15:=h15;replace h15:=of_decide_eq_false h15
             exfalso;omega
            have hb15:=h15;replace h15:=of_decide_eq_false h15
            exfalso;omega
           have hb15:=h15;replace h15:=of_decide_eq_false h15
           exfalso;omega
          have hb15:=h15;replace h15:=of_decide_eq_false h15
          exfalso;omega
         have hb15:=h15;replace h15:=of_decide_eq_false h15
         exfalso;omega
        have hb15:=h15;replace h15:=of_decide_eq_false h15
        exfalso;omega
       have hb15:=h15;replace h15:=of_decide_eq_false h15
       exfalso;omega
      have hb15:=h15;replace h15:=of_decide_eq_false h15
      exfalso;omega
     have hb15:=h15;replace h15:=of_decide_eq_false h15
     exfalso;omega
    have hb15:=h15;replace h15:=of_decide_eq_false h15
    exfalso;omega
   have hb15:=h15;replace h15:=of_decide_eq_false h15
   exfalso;omega
  have hb15:=h15;replace h15:=of_decide_eq_false h15
  exfalso;omega
 have hb15:=h15;replace h15:=of_decide_eq_false h15
 exfalso;omega

theorem Ei{st:St}(hf:Qx st)(h:List Nat)(hl:h.length≤1000)(k:Nat)(u n:Int): ∃v st',Ev Tryz.prog QT 116 [.str h,.int .u8 (((k:Nat):Int)),.int .i64 u,.int .i64 n] st v st'∧v=.bool (JA h k u n)∧Qt st st':=by
 refine Q6 rfl Tryz.func116 rfl Tryz.ntmps116 rfl fun T hT=>?_;have K:Jf [(0,_),(1,_),(2,_),(3,_)] T:=(.cons (hT 0) (.cons (hT 1) (.cons (hT 2) (.cons (hT 3) .nil))));have M:=Mem.start hf;refine Qg 2 K M ?_;intro _ K;refine UW (fun mm1 T st9=> ∃(i:Nat),mm1=h.length-i∧Jf [(0,.str h),(1,.int .u8 (((k:Nat):Int))),(2,.int .i64 u),(3,.int .i64 n),(9,.int .i64 (((i:Nat):Int)))] T∧Mem st.h.get st.n [] st9 []∧i≤h.length∧(∀(j x:Nat),j<i→h[j]? =some x→ ¬x=k)) (fun mm1 T st9 hI=>?_) _ _ _ ⟨0,rfl,(.cons (K _ _ rfl) (.cons (K _ _ rfl) (.cons (K _ _ rfl) (.cons (K _ _ rfl) (.cons (K _ _ rfl) .nil))))),M.less (.refl _),(Nat.zero_le _),(fun j x hj=>by omega)⟩;obtain⟨i,rfl,K,M,hi,hx⟩:=hI;refine Qg 2 K M ?_;intro _ K;refine o1 K (MJ KY rfl rfl) rfl fun _ K=>?_;refine Qg 1 K M ?_;intro _ K;refine YI K rfl (fun h13=>?_) fun h13=>?_
 ·refine Qg 2 K M ?_;intro _ K;obtain⟨y18,hy18⟩: ∃x,h[i]? =some x:=⟨_,List.getElem?_eq_getElem (by omega)⟩;refine o1 K (DU KY rfl rfl hy18) rfl fun _ K=>?_;refine Qg 2 K M ?_;intro _ K;refine YI K rfl (fun h20=>?_) fun h20=>?_
  ·refine Qg 2 K M ?_;intro _ K;refine oB K (Qc rfl) rfl fun b23 _ e23 K=>?_;cases b23
   ·replace e23:=of_decide_eq_false e23;refine Qg 5 K M ?_;intro _ K;refine Qf ⟨.inr rfl,_,J4 K rfl,?_⟩;refine⟨?_,M.qt⟩
    have hmem:k∈h:=by have:=List.mem_of_getElem? hy18;rwa [show y18=k by omega]at this
    rw[JA,if_pos hmem]
    first|(simp_all [Qi];done)|(simp_all [Qi]<;>(intros;omega))
   replace e23:=of_decide_eq_true e23;refine Qg 5 K M ?_;intro _ K;refine Qf ⟨.inr rfl,_,J4 K rfl,?_⟩;refine⟨?_,M.qt⟩
   have hmem:k∈h:=by have:=List.mem_of_getElem? hy18;rwa [show y18=k by omega]at this
   rw[JA,if_pos hmem]
   first|(simp_all [Qi];done)|(simp_all [Qi]<;>(intros;omega))
  refine Qg 1 K M ?_;intro _ K;refine o1 K (Jo rfl rfl (by omega) (by omega)) rfl fun _ K=>o1 K (Qq rfl) rfl fun _ K=>QG ?_;exact⟨_,(by omega),i+1,rfl,(.cons (K _ _ rfl) (.cons (K _ _ rfl) (.cons (K _ _ rfl) (.cons (K _ _ rfl) (.cons (K _ _ rfl) .nil))))),M.less (.refl _),(by omega),(fun j x hj hq=>by by_cases e:j=i;subst e;rw[hy18]at hq;injection hq with hq;omega;exact hx j x (by omega) hq)⟩
 refine Uq ?_;show W _ _ _ _ _ _ _;refine Qg 3 K M ?_;intro _ K;refine Qf ⟨.inr rfl,_,J4 K rfl,?_⟩;refine⟨?_,M.qt⟩
 have hmem: ¬k∈h:=fun hm=>by obtain⟨j,hj⟩:=List.getElem?_of_mem hm;exact hx j k (by have:=(List.getElem?_eq_some_iff.1 hj).1;omega) hj rfl
 rw[JA,if_neg hmem]

theorem Yk{c:Prop} [Decidable c]{a b:List Nat×Int×Bool}(ha:a.1.length≤1000)(hb:b.1.length≤1000):(if c then a else b).1.length≤1000:=by
 split<;>assumption
theorem AJ(o:List Nat):(JK o).1.length≤1000:=by
 unfold JK;refine Yk (by decide) ?_;refine Yk (by decide) ?_;refine Yk (by decide) ?_;refine Yk (by decide) ?_;refine Yk (by decide) ?_;refine Yk (by decide) ?_;refine Yk (by decide) ?_;refine Yk (by decide) ?_;refine Yk (by decide) ?_;refine Yk (by decide) ?_;refine Yk (by decide) ?_;refine Yk (by decide) ?_;refine Yk (by decide) ?_;refine Yk (by decide) ?_;decide

theorem uo (x : Cr) : ∀ (m : Int) (R : YN) (st : St) (cs : List AV), Qx st → XY R st.h.get → Z9 R x cs → Jm x m = true → -100 ≤ m → m ≤ 100 → ∃ v st', Ev Tryz.prog QT 64 [.agg cs, .int .i64 m] st v st' ∧ v = .bool true ∧ Qt st st' := by
 refine Ci (M := fun x => ∀ (m : Int) (R : YN) (st : St) (cs : List AV), Qx st → XY R st.h.get → Z9 R x cs → Jm x m = true → -100 ≤ m → m ≤ 100 → ∃ v st', Ev Tryz.prog QT 64 [.agg cs, .int .i64 m] st v st' ∧ v = .bool true ∧ Qt st st') (fun o a b g n l ih => ?_) x;intro m R st cs hf hR hr hc hm1 hm2;rw [Jm] at hc;simp only [Bool.and_eq_true, decide_eq_true_eq] at hc;obtain ⟨hc1, hc2, hc3, hc4⟩ := hc;have hr0 := hr;obtain ⟨kc, ls, rfl, hK⟩ := hr.WE;have hln := hK.ln;have hbn := hK.UK;refine Q6 rfl Tryz.func64 rfl Tryz.ntmps64 rfl fun T hT => ?_;have K : Jf [(0, _), (1, _)] T := (.cons (hT 0) (.cons (hT 1) .nil));have M := Mem.start hf;refine Qo <| Qb ?_;refine QM K M rfl (Qa rfl (Qa rfl (Qa rfl (Qa rfl (Qa rfl (Qa hK.cell Qy)))))) (by decide) fun c2 _ _ K M => ?_;refine Qg 3 K M ?_;intro _ K;refine oQ K M (M7 M.fresh o) rfl rfl fun _ _ K M => ?_;refine Qg 9 K M ?_;intro _ K;refine oB K (Qc rfl) rfl fun b18 _ e18 K => ?_;cases b18
 · replace e18 : ((JK o).2.2) = true := by first | simpa using e18 | (revert e18; cases ((JK o).2.2) <;> simp)
   refine Qg 2 K M ?_;intro _ K;refine og K rfl rfl (QF ZH rfl rfl hK.len) rfl fun _ K => ?_;refine Qg 3 K M ?_;intro _ K;refine oB K (Qc rfl) rfl fun b25 _ e25 K => ?_;cases b25
   · replace e25 : (((l.length : Nat) : Int) = (JK o).2.1) := by simpa using e25
     refine Qg 3 K M ?_;intro _ K;obtain ⟨v29, st29, ev29, rfl, q29⟩ := Ei M.fresh (JK o).1 (AJ o) 78 n 21;refine og K rfl rfl (Ql rfl ev29) rfl fun _ K => ?_;replace M := M.quiet q29;refine Qg 2 K M ?_;intro _ K;refine Qs (K.QB rfl) (fun h31 => ?_) (fun h31 => ?_)
     · have hb31 := h31
       replace h31 : (JA (JK o).1 78 n 21) = false := by first | simpa using h31 | (revert h31; cases (JA (JK o).1 78 n 21) <;> simp)
       refine Qg 1 K M ?_;intro _ K;refine Qf ⟨.inr rfl, _, J4 K rfl, ?_⟩
       exfalso
       first | (simp_all; done) | (simp_all; omega)
     have hb31 := h31
     replace h31 : (JA (JK o).1 78 n 21) = true := by first | simpa using h31 | (revert h31; cases (JA (JK o).1 78 n 21) <;> simp)
     refine Qg 2 K M ?_;intro _ K;refine o1 K (Q8 (b := [101, 120]) rfl rfl) rfl fun _ K => QG ?_;show W _ _ _ _ _ _ _;refine YI K rfl (fun h34 => ?_) fun h34 => ?_
     · refine Qo ?_;rw [if_pos h34] at hc4;simp only [Bool.and_eq_true, decide_eq_true_eq] at hc4;obtain ⟨hd1, hd2, hd3, hd4, hcl⟩ := hc4
       have hl1 : l.length = 1 := by have h1 : (JK [101, 120]).2.1 = 1 := by decide
                                     rw [h34, h1] at hc2; omega
       refine Qg 4 K M ?_;intro _ K;refine oB K (Qc rfl) rfl fun b39 _ e39 K => ?_;cases b39
       · replace e39 := of_decide_eq_false e39;refine Qg 23 K M ?_;intro _ K;refine Qf ⟨.inr rfl, _, J4 K rfl, ?_⟩
         exfalso
         first | (simp_all; done) | (simp_all; omega)
       replace e39 := of_decide_eq_true e39;refine Qg 3 K M ?_;intro _ K;refine oB K (Qc rfl) rfl fun b43 _ e43 K => ?_;cases b43
       · replace e43 := of_decide_eq_false e43;refine Qg 19 K M ?_;intro _ K;refine Qf ⟨.inr rfl, _, J4 K rfl, ?_⟩
         exfalso
         first | (simp_all; done) | (simp_all; omega)
       replace e43 := of_decide_eq_true e43;refine Qg 4 K M ?_;intro _ K;refine oB K (Qc rfl) rfl fun b48 _ e48 K => ?_;cases b48
       · replace e48 := of_decide_eq_false e48;refine Qg 14 K M ?_;intro _ K;refine Qf ⟨.inr rfl, _, J4 K rfl, ?_⟩
         exfalso
         first | (simp_all; done) | (simp_all; omega)
       replace e48 := of_decide_eq_true e48;refine Qg 4 K M ?_;intro _ K;refine oB K (Qc rfl) rfl fun b53 _ e53 K => ?_;cases b53
       · replace e53 := of_decide_eq_false e53;refine Qg 9 K M ?_;intro _ K;refine Qf ⟨.inr rfl, _, J4 K rfl, ?_⟩
         exfalso
         first | (simp_all; done) | (simp_all; omega)
       replace e53 := of_decide_eq_true e53;refine Qg 2 K M ?_;intro _ K;obtain ⟨⟨o56, a56, b56, g56, n56, l56⟩, hi56⟩ : ∃ k, l[0]? = some k := ⟨_, List.getElem?_eq_getElem (by omega)⟩;have hm56 := NZ hi56;obtain ⟨_, hc56, hn56⟩ := hK.get hi56;have hp56 := hn56;obtain ⟨kc56, ls56, rfl, hK56⟩ := hp56.WE;obtain ⟨x56, m56, f56, q56, _, la56, lo56, lp56⟩ := (hK.r (M.XY hR)).load (i := 0) (cs := _) hc56;refine og K rfl rfl (Qe (j := 0) ZL (congrArg some q56) rfl (by rw [hK.ln]; omega)) rfl fun _ K => og K rfl rfl (Qr rfl (la56 _ Jb)) rfl fun _ K => og K rfl rfl (Qc rfl) rfl fun _ K => og K rfl rfl (Jo rfl rfl (by omega) (by omega)) rfl fun _ K => ?_;have hck60 := LQ hcl hm56;obtain ⟨v60, st60, ev60, rfl, q60⟩ := ih _ hm56 (m + 1) R _ _ M.fresh (M.XY hR) hn56 hck60 (by omega) (by omega);refine og K rfl rfl (Ql rfl ev60) rfl fun _ K => ?_;replace M := M.quiet q60;refine Qg 2 K M ?_;intro _ K;refine Qf ⟨.inr rfl, _, J4 K rfl, ?_⟩;exact ⟨rfl, M.qt⟩
     refine QU ?_;show W _ _ _ _ _ _ _;refine Qo <| Qo ?_;rw [if_neg h34] at hc4;simp only [Bool.and_eq_true, decide_eq_true_eq] at hc4;obtain ⟨hd1, hd2, hd3, hcl⟩ := hc4;refine Qg 4 K M ?_;intro _ K;refine oQ K M (Ei M.fresh (JK o).1 (AJ o) 65 a m) rfl rfl fun _ _ K M => ?_;refine o1 K (N8 rfl) rfl fun _ K => ?_;refine oB K (Qc rfl) rfl fun b68 _ e68 K => ?_;cases b68
     · replace e68 : (JA (JK o).1 65 a m) = true := by first | simpa using e68 | (revert e68; cases (JA (JK o).1 65 a m) <;> simp)
       refine Qg 4 K M ?_;intro _ K;obtain ⟨v73, st73, ev73, rfl, q73⟩ := Ei M.fresh (JK o).1 (AJ o) 66 b m;refine og K rfl rfl (Ql rfl ev73) rfl fun _ K => ?_;replace M := M.quiet q73;refine Qg 2 K M ?_;intro _ K;refine oB K (Qc rfl) rfl fun b76 _ e76 K => ?_;cases b76
       · replace e76 : (JA (JK o).1 66 b m) = true := by first | simpa using e76 | (revert e76; cases (JA (JK o).1 66 b m) <;> simp)
         refine Qg 4 K M ?_;intro _ K;obtain ⟨v81, st81, ev81, rfl, q81⟩ := Ei M.fresh (JK o).1 (AJ o) 67 g m;refine og K rfl rfl (Ql rfl ev81) rfl fun _ K => ?_;replace M := M.quiet q81;refine Qg 2 K M ?_;intro _ K;refine Qs (K.QB rfl) (fun h83 => ?_) (fun h83 => ?_)
         · have hb83 := h83
           replace h83 : (JA (JK o).1 67 g m) = false := by first | simpa using h83 | (revert h83; cases (JA (JK o).1 67 g m) <;> simp)
           refine Qg 1 K M ?_;intro _ K;refine Qf ⟨.inr rfl, _, J4 K rfl, ?_⟩
           exfalso
           first | (simp_all; done) | (simp_all; omega)
         have hb83 := h83
         replace h83 : (JA (JK o).1 67 g m) = true := by first | simpa using h83 | (revert h83; cases (JA (JK o).1 67 g m) <;> simp)
         refine Qg 1 K M ?_;intro _ K;refine UW (fun mm1 T st9 => ∃ (i : Nat), mm1 = l.length - i ∧ Jf [(1, .int .i64 m), (2, .ptr c2 0 0), (6, .int .i64 ((JK o).2.1)), (8, .int .i64 (((i : Nat) : Int)))] T ∧ Mem st.h.get st.n [] st9 [(c2, 0, [.str o, .int .i64 a, .int .i64 b, .int .i64 g, .int .i64 n, kc])] ∧ i ≤ l.length) (fun mm1 T st9 hI => ?_) _ _ _ ⟨0, rfl, (.cons (K _ _ rfl) (.cons (K _ _ rfl) (.cons (K _ _ rfl) (.cons (K _ _ rfl) .nil)))), M.less (.refl _), (Nat.zero_le _)⟩;obtain ⟨i, rfl, K, M, hi⟩ := hI;refine Qg 3 K M ?_;intro _ K;refine YI K rfl (fun h86 => ?_) fun h86 => ?_
         · refine Qg 3 K M ?_;intro _ K;obtain ⟨⟨o92, a92, b92, g92, n92, l92⟩, hi92⟩ : ∃ k, l[i]? = some k := ⟨_, List.getElem?_eq_getElem (by omega)⟩;have hm92 := NZ hi92;obtain ⟨_, hc92, hn92⟩ := hK.get hi92;have hp92 := hn92;obtain ⟨kc92, ls92, rfl, hK92⟩ := hp92.WE;obtain ⟨x92, m92, f92, q92, _, la92, lo92, lp92⟩ := (hK.r (M.XY hR)).load (i := i) (cs := _) hc92;refine o1 K (Qe (j := i) ZL (congrArg some q92) rfl (by rw [hK.ln]; omega)) rfl fun _ K => o1 K (Qr rfl (la92 _ Jb)) rfl fun _ K => o1 K (Qc rfl) rfl fun _ K => ?_;have hck95 := LQ hcl hm92;refine oQ K M (ih _ hm92 m R _ _ M.fresh (M.XY hR) hn92 hck95 (by omega) (by omega)) rfl rfl fun _ _ K M => ?_;refine Qg 1 K M ?_;intro _ K;refine Qs (t := false) (K.QB rfl) (fun h => by cases h) (fun _ => ?_);refine Qg 1 K M ?_;intro _ K;refine o1 K (Jo rfl rfl (by omega) (by omega)) rfl fun _ K => o1 K (Qq rfl) rfl fun _ K => QG ?_;exact ⟨_, (by omega), i + 1, rfl, (.cons (K _ _ rfl) (.cons (K _ _ rfl) (.cons (K _ _ rfl) (.cons (K _ _ rfl) .nil)))), M.less (.refl _), (by omega)⟩
         refine Uq ?_;show W _ _ _ _ _ _ _;refine Qg 1 K M ?_;intro _ K;refine Qf ⟨.inr rfl, _, J4 K rfl, ?_⟩;exact ⟨rfl, M.qt⟩
       replace e76 : (JA (JK o).1 66 b m) = false := by first | simpa using e76 | (revert e76; cases (JA (JK o).1 66 b m) <;> simp)
       refine Qg 7 K M ?_;intro _ K;refine Qs (t := true) (K.QB rfl) (fun _ => ?_) (fun h => by cases h);refine Qg 1 K M ?_;intro _ K;refine Qf ⟨.inr rfl, _, J4 K rfl, ?_⟩
       exfalso
       first | (simp_all; done) | (simp_all; omega)
     replace e68 : (JA (JK o).1 65 a m) = false := by first | simpa using e68 | (revert e68; cases (JA (JK o).1 65 a m) <;> simp)
     refine Qg 15 K M ?_;intro _ K;refine Qs (t := true) (K.QB rfl) (fun _ => ?_) (fun h => by cases h);refine Qg 1 K M ?_;intro _ K;refine Qf ⟨.inr rfl, _, J4 K rfl, ?_⟩
     exfalso
     first | (simp_all; done) | (simp_all; omega)
   replace e25 : ¬ (((l.length : Nat) : Int) = (JK o).2.1) := by simpa using e25
   refine Qg 6 K M ?_;intro _ K;refine Qs (t := true) (K.QB rfl) (fun _ => ?_) (fun h => by cases h);refine Qg 1 K M ?_;intro _ K;refine Qf ⟨.inr rfl, _, J4 K rfl, ?_⟩
   exfalso
   first | (simp_all; done) | (simp_all; omega)
 replace e18 : ((JK o).2.2) = false := by first | simpa using e18 | (revert e18; cases ((JK o).2.2) <;> simp)
 refine Qg 13 K M ?_;intro _ K;refine Qs (t := true) (K.QB rfl) (fun _ => ?_) (fun h => by cases h);refine Qg 1 K M ?_;intro _ K;refine Qf ⟨.inr rfl, _, J4 K rfl, ?_⟩
 exfalso
 first | (simp_all; done) | (simp_all; omega)

theorem M6{R:YN}{st:St}(hf:Qx st)(hR:XY R st.h.get){o:List Nat}{a b g n:Int}{l:List Cr}{cs:List AV}(hr:Z9 R (.mk o a b g n l) cs)(m:Int)(h0:0≤m)(h6:m≤6)(hsz:Hv (.mk o a b g n l)≤2000)(hc:Jm (.mk o a b g n l) m=true): ∃v st',Ev Tryz.prog QT 24 [.agg cs,.int .i64 m] st v st'∧v=.bool true∧Qt st st':=by
 have hr0:=hr;obtain⟨kc,ls,rfl,hK⟩:=hr.WE;have hln:=hK.ln;have hbn:=hK.UK;refine Q6 rfl Tryz.func24 rfl Tryz.ntmps24 rfl fun T hT=>?_;have K:Jf [(0,_),(1,_)] T:=(.cons (hT 0) (.cons (hT 1) .nil));have M:=Mem.start hf;refine Qo<|Qb ?_;refine QM K M rfl (Qa rfl (Qa rfl (Qa rfl (Qa rfl (Qa rfl (Qa hK.cell Qy)))))) (by decide) fun c2 _ _ K M=>?_;refine Qg 3 K M ?_;intro _ K;refine oB K (Qc rfl) rfl fun b7 _ e7 K=>?_;cases b7
 ·replace e7:=of_decide_eq_false e7;refine Qg 14 K M ?_;intro _ K;refine Qf ⟨.inr rfl,_,J4 K rfl,?_⟩
  exfalso
  first|(simp_all;done)|(simp_all;omega)
 replace e7:=of_decide_eq_true e7;refine Qg 3 K M ?_;intro _ K;refine oB K (Qc rfl) rfl fun b11 _ e11 K=>?_;cases b11
 ·replace e11:=of_decide_eq_false e11;refine Qg 10 K M ?_;intro _ K;refine Qf ⟨.inr rfl,_,J4 K rfl,?_⟩
  exfalso
  first|(simp_all;done)|(simp_all;omega)
 replace e11:=of_decide_eq_true e11;refine Qg 1 K M ?_;intro _ K;obtain⟨v13,st13,ev13,rfl,q13⟩:=DJ M.fresh (M.XY hR) hr0;refine og K rfl rfl (Ql rfl ev13) rfl fun _ K=>?_;replace M:=M.quiet q13;refine Qg 2 K M ?_;intro _ K;refine oB K (Qc rfl) rfl fun b16 _ e16 K=>?_;cases b16
 ·replace e16:=of_decide_eq_false e16;refine Qg 5 K M ?_;intro _ K;refine Qf ⟨.inr rfl,_,J4 K rfl,?_⟩
  exfalso
  first|(simp_all;done)|(simp_all;omega)
 replace e16:=of_decide_eq_true e16;refine Qg 2 K M ?_;intro _ K;obtain⟨v19,st19,ev19,rfl,q19⟩:=uo (.mk o a b g n l) m R _ _ M.fresh (M.XY hR) hr0 hc (by omega) (by omega);refine og K rfl rfl (Ql rfl ev19) rfl fun _ K=>?_;replace M:=M.quiet q19;refine Qg 2 K M ?_;intro _ K;refine Qf ⟨.inr rfl,_,J4 K rfl,?_⟩;exact⟨rfl,M.qt⟩

theorem BV(x:Nd): ∀(st:St) (cs:List AV),Qx st→Yq st.h.get x cs→ ∃v st',Ev Tryz.prog QT 60 [.agg cs] st v st'∧v=.bool (JD x)∧Qt st st':=by
 refine Xi (M:=fun x=> ∀(st:St) (cs:List AV),Qx st→Yq st.h.get x cs→ ∃v st',Ev Tryz.prog QT 60 [.agg cs] st v st'∧v=.bool (JD x)∧Qt st st') (fun o s z a l ih=>?_) x;intro st cs hf hr;have hr0:=hr;obtain⟨kk,ls,rfl,hK,hb⟩:=hr.Jl;have hln:=hK.ln;have hbn:=hK.UK;refine Q6 rfl Tryz.func60 rfl Tryz.ntmps60 rfl fun T hT=>?_;have K:Jf [(0,_)] T:=(.cons (hT 0) .nil);have M:=Mem.start hf;refine Qo<|Qb ?_;refine QM K M rfl (Qa rfl (Qa rfl (Qa rfl (Qa rfl (Qa hK.cell Qy))))) (by decide) fun c1 _ _ K M=>?_;refine Qg 3 K M ?_;intro _ K;refine o1 K (Q8 (b:=[99,97,108,108]) rfl rfl) rfl fun _ K=>?_;refine oB K (Qc rfl) rfl fun b6 _ e6 K=>?_;cases b6
 ·replace e6:=of_decide_eq_false e6;refine Qg 2 K M ?_;intro _ K;obtain⟨v9,st9,ev9,rfl,q9⟩:=EB (fo:=60) (fa:=[]) (fc:=[]) (p:=JD) M.fresh (hK.mem M) (fun k hk st1 cs q hr1=>ih k hk st1 cs q.fresh hr1);refine og K rfl rfl (Ql rfl ev9) rfl fun _ K=>?_;replace M:=M.quiet q9;refine Qg 2 K M ?_;intro _ K;refine Qf ⟨.inr rfl,_,J4 K rfl,?_⟩;refine⟨congrArg AV.bool ?_,M.qt⟩;rw[JD,←Kn]
  simp_all
 replace e6:=of_decide_eq_true e6;refine Qg 5 K M ?_;intro _ K;refine Qf ⟨.inr rfl,_,J4 K rfl,?_⟩;refine⟨congrArg AV.bool ?_,M.qt⟩;rw[JD,←Kn]
 simp_all
end Go.Proofs.YtadjjadimlkkgaaGreatDoor
