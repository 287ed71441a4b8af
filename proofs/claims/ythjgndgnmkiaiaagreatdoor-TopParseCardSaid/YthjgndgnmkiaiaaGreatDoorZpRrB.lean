/-
  The reader of 'sibylref2': words, names, numbers.
-/
import Derived.Test.YthjgndgnmkiaiaaGreatDoorZpRrA
namespace Go.Proofs.YthjgndgnmkiaiaaGreatDoor
open Go Go.RowKit
set_option maxHeartbeats 8000000
set_option linter.unusedVariables false
set_option maxRecDepth 100000
variable {L:List (Nat×Nat)} {a c g n:Nat} {ks:AV} {l:List Nat} {st:St}

theorem Mem.nZ{h0:Hp}{n0:Nat}{M:List (Nat×Nat×List AV)}(hM:Mem h0 n0 [] st M){k m:Nat}{l:List AV}(hk:M[k]? =some (c,m,l)):n0≤c:=by
 rcases hM.own c m l (List.mem_of_getElem? hk)with h|h
 ·exact h
 ·cases h
theorem Hh{α:Type} [BEq α]{l:List α}{i:Nat}{w t:α}(h:l[i]? =some w):(l.drop i).contains t=(t==w||(l.drop (i+1)).contains t):=by
 obtain⟨h1,h2⟩:=List.getElem?_eq_some_iff.1 h;rw[List.drop_eq_getElem_cons h1,List.contains_cons,h2]
theorem Aa{b:Nat}(h:n<L.length):Qq a L n=Qq b L n:=by
 obtain⟨c,q,h1,_⟩:=Z4 h;rw[Hx h1,Hx h1]
theorem OJ:QT (bytesOf l) none=l.length:=Jd l
theorem M3(hf:Q3 st){bad:Option Nat}(h:Gw st.h.get g l ks L bad n)(hn:n<L.length): ∃v st',Ev Tryz.prog JF 51 [.ptr g 0 0,.int .i64 0] st v st'∧v=.int .i64 (Qq (QT (bytesOf l) bad) L n:Nat)∧Qt st st':=by
 rw[Aa (b:=l.length) hn];exact nU hf h
theorem iO(h:Q0 (c:Int)=2):U2 (c:Int)=true∧48≤c∧c≤57:=by
 have h:=YD.1 h;refine⟨h,?_⟩;unfold U2 at h;have h:=of_decide_eq_true h;omega
theorem zC{cap:Nat}{q:Nat}{r:List (Nat×Nat)}(h:U2 (c:Int)=true):J9 cap a ((c,q)::r)=J9 cap (min (a *10+(c-48)) cap) r:=by rw[J9,if_pos h]
theorem xZ{q:Nat}{r:List (Nat×Nat)}(h:U2 (c:Int)=true):YM ((c,q)::r)=YM r+1:=by rw[YM,if_pos h]
theorem zB{cap:Nat}{j:Nat}(h:QR L j≠2):J9 cap a (L.drop j)=a∧YM (L.drop j)=0:=by
 by_cases hj:j<L.length
 ·obtain⟨c,q,h1,h2⟩:=Z4 hj;rw[ZN h1]at h;have hd: ¬U2 (c:Int)=true:=fun e=>h (YD.2 e);rw[h2,J9,YM,if_neg hd,if_neg hd];exact⟨rfl,rfl⟩
 ·rw[List.drop_eq_nil_of_le Qk];exact⟨rfl,rfl⟩
theorem qa: ∀r:List (Nat×Nat),YM r≤r.length:=by
 intro r
 induction r with
 |nil=>exact Nat.le_refl _
 |cons x r ih=>obtain⟨c,a⟩:=x;rw[YM];split<;>simp<;>omega

theorem qX(hf:Q3 st): ∃v st',Ev Tryz.prog JF 167 [] st v st'∧TW st st' 1 v (VE.map fun w=>[.str w])∧Qt st st':=by
 refine XB Tryz.func167 Tryz.ntmps167 fun T K=>?_;have M:=Mem.start hf;refine au 3 K M ?_;intro c1 _ _ K _ M;refine Qg 0 K M ?_;exact⟨M.lN (L:=[]) (A:=[(c1,0,_)]) (B:=[]) (Acc.own (ls:=VE.map fun w=>[.str w]) (M.nZ (k:=0) rfl) Q1 Qo),M.qt⟩

theorem yC(hf:Q3 st)(t:List Nat): ∃v st',Ev Tryz.prog JF 123 [.str t] st v st'∧v=.bool (VE.contains t)∧Qt st st':=by
 have hwl:(VE.map fun w=>[AV.str w]).length=17:=rfl;have hwl0:VE.length=17:=rfl;refine XB Tryz.func123 Tryz.ntmps123 fun T K=>?_;have M:=Mem.start hf;refine Qg 1 K M fun _ K=>?_;obtain⟨v5,st5,ev5,nr5,q5⟩:=qX M.fresh;refine p1 K (Qh rfl ev5) fun _ K=>?_;obtain⟨A5,hA5,M⟩:=M.Nz q5 nr5;refine Qg 2 K M fun _ K=>?_;refine UE (fun mm1 T st9=> ∃(i:Nat),mm1=17-i∧Jn [(0,.str t),(3,v5),(4,iN i)] T∧Mem st.h.get st.n [] st9 (A5++[])∧i≤17∧VE.contains t=(VE.drop i).contains t) (fun mm1 T st9 hI=>?_) _ _ _ ⟨0,rfl,(K.sub rfl),M.less (.refl _),Qo,rfl⟩;obtain⟨i,rfl,K,M,hi,hc⟩:=hI;refine Qg 2 K M fun _ K=>?_;refine p1 K (Jp WI rfl rfl hA5.len) fun _ K=>?_;refine Qg 1 K M fun _ K=>?_;refine Zb K rfl (fun h9=>?_) fun h9=>?_
 ·replace h9:=of_decide_eq_true h9;refine Qg 2 K M fun _ K=>?_;obtain⟨w14,hw14⟩: ∃w,VE[i]? =some w:=⟨_,List.getElem?_eq_getElem (by rw[hwl0];omega)⟩;obtain⟨x14,m14,f14,q14,_,la14,lo14,lp14⟩:=(M.ag (L:=[]) (B:=[]) hA5).load (i:=i) (cs:=_) (by rw[List.getElem?_map,hw14];rfl);refine p1 K (Qp UZ (congrArg some q14) rfl (by rw[hwl];omega)) fun _ K=>p1 K (QK rfl (lo14 _ 0 _ Qr rfl)) fun _ K=>?_;refine Qg 2 K M fun _ K=>?_;refine Zb K rfl (fun h17=>?_) fun h17=>?_
  ·replace h17:=of_decide_eq_true h17;refine Qg 1 K M ?_;exact⟨by rw[hc,Hh hw14,←h17,beq_self_eq_true];rfl,M.less (.refl _)|>.qt⟩
  ·replace h17:=of_decide_eq_false h17;refine Qg 3 K M fun _ K=>?_;exact⟨_,Qk,i+1,rfl,(K.sub rfl),M.less (.refl _),Qk,(by rw[hc,Hh hw14,beq_false_of_ne (fun e=>h17 e.symm)];rfl)⟩
 ·replace h9:=of_decide_eq_false h9;refine Uz ?_;show W _ _ _ _ _ _ _;refine Qg 1 K M ?_;exact⟨by rw[hc,List.drop_eq_nil_of_le Qk];rfl,M.qt⟩

theorem yI (hf : Q3 st) {bad : Option Nat} (h : Gw st.h.get g l ks L bad n) (hn : n < L.length) (hc : QR L n = 1) : ∃ v st', Ev Tryz.prog JF 85 [.ptr g 0 0] st v st' ∧ v = .tup [.agg [iZ (if VE.contains ((l.drop (Qq (QT (bytesOf l) bad) L (n))).take (Qq (QT (bytesOf l) bad) L (n + Ju (L.drop n)) - Qq (QT (bytesOf l) bad) L (n))) then 3 else 1), .str ((l.drop (Qq (QT (bytesOf l) bad) L (n))).take (Qq (QT (bytesOf l) bad) L (n + Ju (L.drop n)) - Qq (QT (bytesOf l) bad) L (n))), iZ 0, iZ (Qq (QT (bytesOf l) bad) L (n) : Nat)], .bool (decide (((Ju (L.drop n) : Nat) : Int) ≤ 12))] ∧ EJ [g] st st' ∧ Gw st'.h.get g l ks L bad (n + Ju (L.drop n)) := by
 have hrl := @VS L;have hfew := h.few;have hle := h.le;have hsz := h.size;have hml := IN (L.drop n);have hdl := qa (L.drop n);rw [List.length_drop] at hml hdl;refine XB Tryz.func85 Tryz.ntmps85 fun T K => ?_;have M := Mem.UU hf h.row;refine JK <| US ?_;refine Ip K M XD Qo fun c2 _ _ K M => ?_;refine p1 K (JL rfl) fun _ K => Xr ?_;show W _ _ _ _ _ _ _;refine JK <| US <| p1 K (JL rfl) fun _ K => Xr ?_;show W _ _ _ _ _ _ _;refine AA (J := fun T st9 => Jn [(0, .ptr g 0 0), (2, .ptr c2 0 0), (3, .bool false), (4, iZ (Ju (L.drop n) : Nat))] T ∧ Mem st.h.get st.n [g] st9 [(c2, 0, [iZ 0, .str [], iZ 0, iZ 0]), (g, 0, [.str l, ks, iZ (Jx bad), iN n])]) ?_ (fun T st9 hJ => ?_)
 · refine F3 ?_;refine UE (fun mm1 T st9 => ∃ (j : Nat), mm1 = Ju (L.drop n) - j ∧ Jn [(0, .ptr g 0 0), (2, .ptr c2 0 0), (3, .bool false), (4, iN j)] T ∧ Mem st.h.get st.n [g] st9 [(c2, 0, [iZ 0, .str [], iZ 0, iZ 0]), (g, 0, [.str l, ks, iZ (Jx bad), iN n])] ∧ j + Ju (L.drop (n + j)) = Ju (L.drop n)) (fun mm1 T st9 hI => ?_) _ _ _ ⟨0, rfl, (K.sub rfl), M.less (.refl _), (by rw [Nat.add_zero, Nat.zero_add])⟩;obtain ⟨j, rfl, K, M, hj⟩ := hI;refine Qg 2 K M fun _ K => ?_;obtain ⟨v9, st9, ev9, rfl, q9⟩ := F7 M.fresh (h.next (M.Qv (k := 1) rfl) (h.run.mem M Q1) Qk) j Qk;refine p1 K (Qh rfl ev9) fun _ K => ?_;replace M := M.quiet q9;refine Qg 1 K M fun _ K => ?_;refine oB K (Q7 rfl) rfl fun b11 _ e11 K => ?_;cases b11
   · replace e11 := of_decide_eq_false e11;refine Qg 2 K M fun _ K => ?_;refine uC K rfl rfl (Q7 rfl) rfl fun b14 _ e14 K => ?_;cases b14
     · replace e14 := of_decide_eq_false e14;refine Qg 12 K M fun _ K => ?_;refine Uz ?_
       have hm : Ju (L.drop (n + j)) = 0 := by
              first
                | exact PG ‹_› ‹_› ‹_›
                | (exfalso; obtain rfl : j = 0 := by omega
                   exact absurd hc ‹_›)
       obtain rfl : j = Ju (L.drop n) := by omega
       exact ⟨(K.sub rfl), M.less (.refl _)⟩
     · replace e14 := of_decide_eq_true e14;refine Qg 2 K M fun _ K => ?_;obtain ⟨v17, st17, ev17, rfl, q17⟩ := F7 M.fresh (h.next (M.Qv (k := 1) rfl) (h.run.mem M Q1) Qk) j Qk;refine pg K rfl rfl (Qh rfl ev17) fun _ K => ?_;replace M := M.quiet q17;refine Qg 1 K M fun _ K => ?_;refine uC K rfl rfl (Q7 rfl) rfl fun b19 _ e19 K => ?_;cases b19
       · replace e19 := of_decide_eq_false e19;refine Qg 2 K M fun _ K => ?_;obtain ⟨v22, st22, ev22, rfl, q22⟩ := CC M.fresh (h.next (M.Qv (k := 1) rfl) (h.run.mem M Q1) Qk) j Qk 39;refine pg K rfl rfl (Qh rfl ev22) fun _ K => ?_;replace M := M.quiet q22;refine Qg 3 K M fun _ K => ?_;refine Zb K rfl (fun h25 => ?_) fun h25 => ?_
         · refine Qg 3 K M fun _ K => ?_;have hm := KV (L := L) (j := n + j) (by first | exact .inl ‹_› | exact .inr (.inl ‹_›) | exact .inr (.inr ‹_›));exact ⟨_, Qk, j + 1, rfl, (K.sub rfl), M.less (.refl _), (by rw [← Nat.add_assoc]; omega)⟩
         · refine Uz ?_
           have hm : Ju (L.drop (n + j)) = 0 := by
              first
                | exact PG ‹_› ‹_› ‹_›
                | (exfalso; obtain rfl : j = 0 := by omega
                   exact absurd hc ‹_›)
           obtain rfl : j = Ju (L.drop n) := by omega
           exact ⟨(K.sub rfl), M.less (.refl _)⟩
       · replace e19 := of_decide_eq_true e19;refine Qg 10 K M fun _ K => ?_;have hm := KV (L := L) (j := n + j) (by first | exact .inl ‹_› | exact .inr (.inl ‹_›) | exact .inr (.inr ‹_›));exact ⟨_, Qk, j + 1, rfl, (K.sub rfl), M.less (.refl _), (by rw [← Nat.add_assoc]; omega)⟩
   · replace e11 := of_decide_eq_true e11;refine Qg 18 K M fun _ K => ?_;have hm := KV (L := L) (j := n + j) (by first | exact .inl ‹_› | exact .inr (.inl ‹_›) | exact .inr (.inr ‹_›));exact ⟨_, Qk, j + 1, rfl, (K.sub rfl), M.less (.refl _), (by rw [← Nat.add_assoc]; omega)⟩
 · obtain ⟨K, M⟩ := hJ;refine Qg 1 K M fun _ K => ?_;refine oQ K M (M3 M.fresh (h.next (M.Qv (k := 1) rfl) (h.run.mem M Q1) Qk) Qk) rfl rfl fun _ _ K M => ?_;refine au 5 K M ?_;intro c5 _ _ K _ M;refine oQ K M (yP M.fresh (h.next (M.Qv (k := 2) rfl) (h.run.mem M Q1) Qk) ((Ju (L.drop n))) Qk) rfl rfl fun _ _ K M => ?_;refine p1 K (JL rfl) fun _ K => Xr ?_;show W _ _ _ _ _ _ _;refine AA (J := fun T st9 => ∃ (z : Int), Jn [(0, .ptr g 0 0), (2, .ptr c2 0 0), (3, .bool false), (4, iZ (Ju (L.drop n) : Nat)), (5, .ptr c5 0 0), (6, iZ z)] T ∧ Mem st.h.get st.n [g] st9 [(c5, 0, [iZ 1, .str [], iZ 0, iZ (Qq (QT (bytesOf l) bad) L (n) : Nat)]), (c2, 0, [iZ 0, .str [], iZ 0, iZ 0]), (g, 0, [.str l, ks, iZ (Jx bad), iN n])] ∧ z = ((Qq (QT (bytesOf l) bad) L (n + Ju (L.drop n)) : Nat) : Int)) ?_ (fun T st9 hJ => ?_)
   · refine JK ?_;refine QU (l := [(0, 0), (1, 0), (2, 0), (3, 0), (4, 0), (5, 0), (6, 0), (7, 0), (8, 0), (9, 0), (10, 0), (11, 0), (12, 0), (13, 0), (14, 0), (15, 0), (16, 0), (17, 0), (18, 0)]) (by kernel_rfl) ?_;refine Ue 10 K M fun _ K => ?_;refine q1 rfl K (Jp YE rfl rfl (h.run.mem M Q1).len) fun _ K => q1 rfl K (CL rfl rfl) fun _ K => ?_;refine dB rfl K (Q7 rfl) rfl rfl fun b46 _ e46 K => ?_;cases b46
     · replace e46 := of_decide_eq_false e46;refine Z2 rfl K rfl rfl rfl rfl fun _ _ K => Z2 rfl K rfl rfl rfl rfl fun _ _ K => Z2 rfl K rfl rfl rfl rfl fun _ _ K => Z2 rfl K rfl rfl rfl rfl fun _ _ K => Z2 rfl K rfl rfl rfl rfl fun _ _ K => ?_;refine Ue 1 K M fun _ K => ?_;refine QZ ?_;show W _ _ _ _ _ _ _;refine Qg 1 K M fun _ K => ?_
       exact ⟨_, (K.sub rfl), M.less (.refl _), (by first
              | (rw [Aa Qk])
              | (obtain ⟨q, rfl⟩ := Kw ‹_›; rw [YI Qk]; rfl)
              | (rw [Kx (bad := bad) ‹_›, YI Qk, YI Qk, OJ]))⟩
     · replace e46 := of_decide_eq_true e46;refine Ue 6 K M fun _ K => ?_;refine QZ ?_;show W _ _ _ _ _ _ _;refine Zb K rfl (fun h52 => ?_) fun h52 => ?_
       · replace h52 := of_decide_eq_true h52;refine Qg 5 K M fun _ K => ?_
         exact ⟨_, (K.sub rfl), M.less (.refl _), (by first
              | (rw [Aa Qk])
              | (obtain ⟨q, rfl⟩ := Kw ‹_›; rw [YI Qk]; rfl)
              | (rw [Kx (bad := bad) ‹_›, YI Qk, YI Qk, OJ]))⟩
       · replace h52 := of_decide_eq_false h52;refine Zg ?_
         exact ⟨_, (K.sub rfl), M.less (.refl _), (by first
              | (rw [Aa Qk])
              | (obtain ⟨q, rfl⟩ := Kw ‹_›; rw [YI Qk]; rfl)
              | (rw [Kx (bad := bad) ‹_›, YI Qk, YI Qk, OJ]))⟩
   · obtain ⟨z, K, M, rfl⟩ := hJ;refine JK ?_;refine QU (l := [(0, 0), (1, 0), (2, 0), (3, 0), (4, 0), (5, 0), (6, 0), (7, 0), (8, 0), (9, 0)]) (by kernel_rfl) ?_;refine Ue 7 K M fun _ K => ?_;refine q1 rfl K (jv (a := (Qq (QT (bytesOf l) bad) L (n))) (b := (Qq (QT (bytesOf l) bad) L (n + Ju (L.drop n)))) ZQ rfl rfl rfl (h.mono n (n + Ju (L.drop n)) Qk).1 (h.mono n (n + Ju (L.drop n)) Qk).2) fun _ K => ?_;refine Ue 1 K M fun _ K => ?_;refine Um (k := 0) rfl K M rfl rfl rfl GZ rfl rfl rfl fun _ M => ?_;refine QZ ?_;show W _ _ _ _ _ _ _;refine au 12 K M ?_;intro _ _ K _ M;refine oQ K M (yC M.fresh (((l).drop (Qq (QT (bytesOf l) bad) L (n))).take (Qq (QT (bytesOf l) bad) L (n + Ju (L.drop n)) - Qq (QT (bytesOf l) bad) L (n)))) rfl rfl fun _ _ K M => ?_;refine Qg 0 K M fun _ K => ?_;refine Zb K rfl (fun h77 => ?_) fun h77 => ?_
     · refine au 7 K M ?_;intro _ _ K _ M;refine UR ⟨.inr rfl, _, (Xo (Zh K rfl (M.load (k := 1) rfl (Jl Up rfl))) (JX K rfl)), ?_⟩;exact ⟨(by rw [if_pos h77]), M.Z5, h.next (M.Qv (k := 2) rfl) (h.run.mem M Q1) Qk⟩
     · refine au 5 K M ?_;intro _ _ K _ M;refine UR ⟨.inr rfl, _, (Xo (Zh K rfl (M.load (k := 1) rfl (Jl Up rfl))) (JX K rfl)), ?_⟩;exact ⟨(by rw [if_neg (by rw [h77]; decide)]), M.Z5, h.next (M.Qv (k := 2) rfl) (h.run.mem M Q1) Qk⟩

theorem SF(hf:Q3 st){bad:Option Nat}(h:Gw st.h.get g l ks L bad n)(hn:n<L.length): ∃v st',Ev Tryz.prog JF 86 [.ptr g 0 0] st v st'∧v=.tup [.agg [iZ 2,.str [],iZ (J9 1000 0 (L.drop n):Nat),iZ (Qq (QT (bytesOf l) bad) L (n):Nat)],.bool (decide (((J9 1000 0 (L.drop n):Nat):Int)≤99)&& !(H9 L n 48&&decide (1<((YM (L.drop n):Nat):Int))))]∧EJ [g] st st'∧Gw st'.h.get g l ks L bad (n+YM (L.drop n)):=by
 have hrl:= @VS L;have hfew:=h.few;have hle:=h.le;have hsz:=h.size;have hml:=IN (L.drop n);have hdl:=qa (L.drop n);rw[List.length_drop]at hml hdl;refine XB Tryz.func86 Tryz.ntmps86 fun T K=>?_;have M:=Mem.UU hf h.row;refine au 3 K M ?_;intro c2 _ _ K _ M;refine oQ K M (M3 M.fresh (h.next (M.Qv (k:=1) rfl) (h.run.mem M Q1) Qk) Qk) rfl rfl fun _ _ K M=>?_;refine au 4 K M ?_;intro c4 _ _ K _ M;refine oQ K M (CC M.fresh (h.next (M.Qv (k:=2) rfl) (h.run.mem M Q1) Qk) 0 Qk 48) rfl rfl fun _ _ K M=>?_;refine p1 K (JL rfl) fun _ K=>Xr ?_;show W _ _ _ _ _ _ _;refine JK<|US<|p1 K (JL rfl) fun _ K=>Xr ?_;show W _ _ _ _ _ _ _;refine AA (J:=fun T st9=>Jn [(0,.ptr g 0 0),(2,.ptr c2 0 0),(3,.bool false),(4,.ptr c4 0 0),(5,.bool (H9 L (n+0) 48)),(6,iZ (YM (L.drop n):Nat))] T∧Mem st.h.get st.n [g] st9 [(c4,0,[iZ 2,.str [],iZ (J9 1000 0 (L.drop n):Nat),iZ (Qq (QT (bytesOf l) bad) L (n):Nat)]),(c2,0,[iZ 0,.str [],iZ 0,iZ 0]),(g,0,[.str l,ks,iZ (Jx bad),iN n])]) ?_ (fun T st9 hJ=>?_)
 ·refine F3 ?_;refine UE (fun mm1 T st9=> ∃(j a:Nat),mm1=YM (L.drop n)-j∧Jn [(0,.ptr g 0 0),(2,.ptr c2 0 0),(3,.bool false),(4,.ptr c4 0 0),(5,.bool (H9 L (n+0) 48)),(6,iN j)] T∧Mem st.h.get st.n [g] st9 [(c4,0,[iZ 2,.str [],iN a,iZ (Qq (QT (bytesOf l) bad) L (n):Nat)]),(c2,0,[iZ 0,.str [],iZ 0,iZ 0]),(g,0,[.str l,ks,iZ (Jx bad),iN n])]∧a≤1000∧J9 1000 a (L.drop (n+j))=J9 1000 0 (L.drop n)∧j+YM (L.drop (n+j))=YM (L.drop n)) (fun mm1 T st9 hI=>?_) _ _ _ ⟨0,0,rfl,(K.sub rfl),M.less (.refl _),Qo,rfl,(by rw[Nat.add_zero,Nat.zero_add])⟩;obtain⟨j,a,rfl,K,M,ha,hnum,hdig⟩:=hI;refine Qg 2 K M fun _ K=>?_;refine oQ K M (F7 M.fresh (h.next (M.Qv (k:=2) rfl) (h.run.mem M Q1) Qk) j Qk) rfl rfl fun _ _ K M=>?_;refine Qg 1 K M fun _ K=>?_;refine Zb K rfl (fun h15=>?_) fun h15=>?_
  ·replace h15:=of_decide_eq_true h15;refine Qg 0 K M fun _ K=>?_;refine QU (l:=[(0,0),(1,0),(2,0),(3,0),(4,0),(5,0),(6,0),(7,0),(8,0),(9,0),(10,0),(11,0),(12,0),(13,0),(14,0),(15,0),(16,0),(17,0),(18,0),(19,0),(20,0),(21,0)]) (by kernel_rfl) ?_;refine Ue 2 K M fun _ K=>?_;refine q1 rfl K (wL (c:=10 *((a:Nat):Int)) rfl rfl (IntWalk.i64_in _ Qk)) fun _ K=>?_;refine Ue 10 K M fun _ K=>?_
   have hn29:(n+j)<L.length:=by first|omega|exact Fo Qk
   obtain⟨rc29,ra29,hr29,hd29⟩:=Z4 hn29;have hg29:=iO (c:=rc29) (by first|(rw[←ZN hr29];assumption));obtain⟨x29,m29,f29,q29,_,la29,lo29,lp29⟩:=(h.run.mem M Q1).load (i:=(n+j)) (cs:=_) (C9 hr29);refine q1 rfl K (Qp Vw (congrArg some q29) rfl (by rw[VS];exact hn29)) fun _ K=>?_;refine Ue 1 K M fun _ K=>?_;refine q1 rfl K (QK rfl (lo29 _ 0 _ Iv rfl)) fun _ K=>q1 rfl K (wH (c:=(rc29:Int)-48) rfl rfl (IntWalk.i32_in _ Qk)) fun _ K=>q1 rfl K (PB (c:=((rc29:Int)-48)) fi DM rfl (IntWalk.i64_in _ Qk)) fun _ K=>?_;refine Ue 1 K M fun _ K=>?_;refine q1 rfl K (CK rfl rfl) fun _ K=>?_;refine Ue 1 K M fun _ K=>?_;refine Um (k:=0) rfl K M rfl rfl rfl S5 rfl rfl rfl fun _ M=>?_;refine QZ ?_;show W _ _ _ _ _ _ _;refine Qg 3 K M fun _ K=>?_;rw[show((min (((10 *((a:Nat):Int))+((rc29:Int)-48))) 1000))=((min (a *10+(rc29-48)) 1000:Nat):Int) by omega]at M;rw[hd29,zC hg29.1]at hnum;rw[hd29,xZ hg29.1]at hdig;exact⟨_,Qk,j+1,min (a *10+(rc29-48)) 1000,rfl,(K.sub rfl),M.less (.refl _),(Nat.min_le_right _ _),hnum,(by rw[←Nat.add_assoc];omega)⟩
  ·replace h15:=of_decide_eq_false h15;refine Uz ?_;obtain⟨hs1,hs2⟩:=zB (cap:=1000) (a:=a) ‹QR L (n+j)≠2›
   obtain rfl:a=J9 1000 0 (L.drop n):=by omega
   obtain rfl:j=YM (L.drop n):=by omega
   exact⟨(K.sub rfl),M.less (.refl _)⟩
 ·obtain⟨K,M⟩:=hJ;refine au 14 K M ?_;intro _ _ K _ M;refine oB K (Q7 rfl) rfl fun b52 _ e52 K=>?_;cases b52
  ·replace e52:=of_decide_eq_false e52;refine au 9 K M ?_;intro _ _ K _ M;refine UR ⟨.inr rfl,_,(Xo (Zh K rfl (M.load (k:=1) rfl (Jl Up rfl))) (JX K rfl)),?_⟩
   exact⟨congrArg AV.tup (congrArg (fun b=>[AV.agg _,AV.bool b]) (by simp_all [Ql]<;>(intro h0;omega))),M.Z5,h.next (M.Qv (k:=2) rfl) (h.run.mem M Q1) Qk⟩
  ·replace e52:=of_decide_eq_true e52;refine Qg 1 K M fun _ K=>?_;refine uC K rfl rfl (Q7 rfl) rfl fun b54 _ e54 K=>?_;cases b54
   ·refine au 7 K M ?_;intro _ _ K _ M;refine UR ⟨.inr rfl,_,(Xo (Zh K rfl (M.load (k:=1) rfl (Jl Up rfl))) (JX K rfl)),?_⟩
    exact⟨congrArg AV.tup (congrArg (fun b=>[AV.agg _,AV.bool b]) (by simp_all [Ql]<;>(intro h0;omega))),M.Z5,h.next (M.Qv (k:=2) rfl) (h.run.mem M Q1) Qk⟩
   ·refine au 7 K M ?_;intro _ _ K _ M;refine UR ⟨.inr rfl,_,(Xo (Zh K rfl (M.load (k:=1) rfl (Jl Up rfl))) (JX K rfl)),?_⟩
    exact⟨congrArg AV.tup (congrArg (fun b=>[AV.agg _,AV.bool b]) (by simp_all [Ql]<;>(intro h0;omega))),M.Z5,h.next (M.Qv (k:=2) rfl) (h.run.mem M Q1) Qk⟩
end Go.Proofs.YthjgndgnmkiaiaaGreatDoor
