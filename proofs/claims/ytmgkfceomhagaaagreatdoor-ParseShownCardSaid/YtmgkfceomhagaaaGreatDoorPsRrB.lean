/-
  The reader of 'sibylref2': words, names, numbers.
-/
import Derived.Test.YtmgkfceomhagaaaGreatDoorPsRrA
namespace Go.Proofs.YtmgkfceomhagaaaGreatDoor
open Go Go.RowKit
set_option maxHeartbeats 8000000
set_option linter.unusedVariables false
set_option maxRecDepth 100000
variable {L:List (Nat×Nat)} {a c g n:Nat} {ks:AV} {l:List Nat} {st:St}

theorem Mem.ik{h0:Hp}{n0:Nat}{M:List (Nat×Nat×List AV)}(hM:Mem h0 n0 [] st M){k m:Nat}{l:List AV}(hk:M[k]? =some (c,m,l)):n0≤c:=by
 rcases hM.own c m l (List.mem_of_getElem? hk)with h|h
 ·exact h
 ·cases h
theorem Hb{α:Type} [BEq α]{l:List α}{i:Nat}{w t:α}(h:l[i]? =some w):(l.drop i).contains t=(t==w||(l.drop (i+1)).contains t):=by
 obtain⟨h1,h2⟩:=List.getElem?_eq_some_iff.1 h;rw[List.drop_eq_getElem_cons h1,List.contains_cons,h2]
theorem Aa{b:Nat}(h:n<L.length):Q5 a L n=Q5 b L n:=by
 obtain⟨c,q,h1,_⟩:=ZU h;rw[Hq h1,Hq h1]
theorem On:Jq (bytesOf l) none=l.length:=J7 l
theorem SQ(hf:QC st){bad:Option Nat}(h:OI st.h.get g l ks L bad n)(hn:n<L.length): ∃v st',Ev Tryz.prog Jy 49 [.ptr g 0 0,.int .i64 0] st v st'∧v=.int .i64 (Q5 (Jq (bytesOf l) bad) L n:Nat)∧Qt st st':=by
 rw[Aa (b:=l.length) hn];exact ie hf h
theorem eu(h:QJ (c:Int)=2):UW (c:Int)=true∧48≤c∧c≤57:=by
 have h:=YY.1 h;refine⟨h,?_⟩;unfold UW at h;have h:=of_decide_eq_true h;omega
theorem uf{cap:Nat}{q:Nat}{r:List (Nat×Nat)}(h:UW (c:Int)=true):Ua cap a ((c,q)::r)=Ua cap (min (a *10+(c-48)) cap) r:=by rw[Ua,if_pos h]
theorem y7{q:Nat}{r:List (Nat×Nat)}(h:UW (c:Int)=true):Zh ((c,q)::r)=Zh r+1:=by rw[Zh,if_pos h]
theorem ue{cap:Nat}{j:Nat}(h:Jo L j≠2):Ua cap a (L.drop j)=a∧Zh (L.drop j)=0:=by
 by_cases hj:j<L.length
 ·obtain⟨c,q,h1,h2⟩:=ZU hj;rw[Xj h1]at h;have hd: ¬UW (c:Int)=true:=fun e=>h (YY.2 e);rw[h2,Ua,Zh,if_neg hd,if_neg hd];exact⟨rfl,rfl⟩
 ·rw[List.drop_eq_nil_of_le Qq];exact⟨rfl,rfl⟩
theorem Tz: ∀r:List (Nat×Nat),Zh r≤r.length:=by
 intro r
 induction r with
 |nil=>exact Nat.le_refl _
 |cons x r ih=>obtain⟨c,a⟩:=x;rw[Zh];split<;>simp<;>omega

theorem Mj(hf:QC st): ∃v st',Ev Tryz.prog Jy 100 [] st v st'∧Su st st' 1 v (VT.map fun w=>[.str w])∧Qt st st':=by
 refine Zw Tryz.func100 Tryz.ntmps100 fun T K=>?_;have M:=Mem.start hf;refine au 3 K M ?_;intro c1 _ _ K _ M;refine Qf 0 K M ?_;exact⟨M.aU (L:=[]) (A:=[(c1,0,_)]) (B:=[]) (Acc.own (ls:=VT.map fun w=>[.str w]) (M.ik (k:=0) rfl) Q3 Qz),M.qt⟩

theorem js(hf:QC st)(t:List Nat): ∃v st',Ev Tryz.prog Jy 95 [.str t] st v st'∧v=.bool (VT.contains t)∧Qt st st':=by
 have hwl:(VT.map fun w=>[AV.str w]).length=17:=rfl;have hwl0:VT.length=17:=rfl;refine Zw Tryz.func95 Tryz.ntmps95 fun T K=>?_;have M:=Mem.start hf;refine Qf 1 K M fun _ K=>?_;obtain⟨v5,st5,ev5,nr5,q5⟩:=Mj M.fresh;refine p1 K (Qe rfl ev5) fun _ K=>?_;obtain⟨A5,hA5,M⟩:=M.Ke q5 nr5;refine Qf 2 K M fun _ K=>?_;refine UM (fun mm1 T st9=> ∃(i:Nat),mm1=17-i∧JC [(0,.str t),(3,v5),(4,iN i)] T∧Mem st.h.get st.n [] st9 (A5++[])∧i≤17∧VT.contains t=(VT.drop i).contains t) (fun mm1 T st9 hI=>?_) _ _ _ ⟨0,rfl,(K.sub rfl),M.less (.refl _),Qz,rfl⟩;obtain⟨i,rfl,K,M,hi,hc⟩:=hI;refine Qf 2 K M fun _ K=>?_;refine p1 K (JJ Ec rfl rfl hA5.len) fun _ K=>?_;refine Qf 1 K M fun _ K=>?_;refine Uj K rfl (fun h9=>?_) fun h9=>?_
 ·replace h9:=of_decide_eq_true h9;refine Qf 2 K M fun _ K=>?_;obtain⟨w14,hw14⟩: ∃w,VT[i]? =some w:=⟨_,List.getElem?_eq_getElem (by rw[hwl0];omega)⟩;obtain⟨x14,m14,f14,q14,_,la14,lo14,lp14⟩:=(M.xX (L:=[]) (B:=[]) hA5).load (i:=i) (cs:=_) (by rw[List.getElem?_map,hw14];rfl);refine p1 K (Qo QM (congrArg some q14) rfl (by rw[hwl];omega)) fun _ K=>p1 K (Je rfl (lo14 _ 0 _ QB rfl)) fun _ K=>?_;refine Qf 2 K M fun _ K=>?_;refine Uj K rfl (fun h17=>?_) fun h17=>?_
  ·replace h17:=of_decide_eq_true h17;refine Qf 1 K M ?_;exact⟨by rw[hc,Hb hw14,←h17,beq_self_eq_true];rfl,M.less (.refl _)|>.qt⟩
  ·replace h17:=of_decide_eq_false h17;refine Qf 3 K M fun _ K=>?_;exact⟨_,Qq,i+1,rfl,(K.sub rfl),M.less (.refl _),Qq,(by rw[hc,Hb hw14,beq_false_of_ne (fun e=>h17 e.symm)];rfl)⟩
 ·replace h9:=of_decide_eq_false h9;refine Un ?_;show W _ _ _ _ _ _ _;refine Qf 1 K M ?_;exact⟨by rw[hc,List.drop_eq_nil_of_le Qq];rfl,M.qt⟩

theorem jx (hf : QC st) {bad : Option Nat} (h : OI st.h.get g l ks L bad n) (hn : n < L.length) (hc : Jo L n = 1) : ∃ v st', Ev Tryz.prog Jy 76 [.ptr g 0 0] st v st' ∧ v = .tup [.agg [iZ (if VT.contains ((l.drop (Q5 (Jq (bytesOf l) bad) L (n))).take (Q5 (Jq (bytesOf l) bad) L (n + JM (L.drop n)) - Q5 (Jq (bytesOf l) bad) L (n))) then 3 else 1), .str ((l.drop (Q5 (Jq (bytesOf l) bad) L (n))).take (Q5 (Jq (bytesOf l) bad) L (n + JM (L.drop n)) - Q5 (Jq (bytesOf l) bad) L (n))), iZ 0, iZ (Q5 (Jq (bytesOf l) bad) L (n) : Nat)], .bool (decide (((JM (L.drop n) : Nat) : Int) ≤ 12))] ∧ Vq [g] st st' ∧ OI st'.h.get g l ks L bad (n + JM (L.drop n)) := by
 have hrl := @Wl L;have hfew := h.few;have hle := h.le;have hsz := h.size;have hml := IA (L.drop n);have hdl := Tz (L.drop n);rw [List.length_drop] at hml hdl;refine Zw Tryz.func76 Tryz.ntmps76 fun T K => ?_;have M := Mem.JV hf h.row;refine Ud <| Yo ?_;refine Ie K M XP Qz fun c2 _ _ K M => ?_;refine p1 K (Uv rfl) fun _ K => Xs ?_;show W _ _ _ _ _ _ _;refine Ud <| Yo <| p1 K (Uv rfl) fun _ K => Xs ?_;show W _ _ _ _ _ _ _;refine AH (J := fun T st9 => JC [(0, .ptr g 0 0), (2, .ptr c2 0 0), (3, .bool false), (4, iZ (JM (L.drop n) : Nat))] T ∧ Mem st.h.get st.n [g] st9 [(c2, 0, [iZ 0, .str [], iZ 0, iZ 0]), (g, 0, [.str l, ks, iZ (JR bad), iN n])]) ?_ (fun T st9 hJ => ?_)
 · refine F3 ?_;refine UM (fun mm1 T st9 => ∃ (j : Nat), mm1 = JM (L.drop n) - j ∧ JC [(0, .ptr g 0 0), (2, .ptr c2 0 0), (3, .bool false), (4, iN j)] T ∧ Mem st.h.get st.n [g] st9 [(c2, 0, [iZ 0, .str [], iZ 0, iZ 0]), (g, 0, [.str l, ks, iZ (JR bad), iN n])] ∧ j + JM (L.drop (n + j)) = JM (L.drop n)) (fun mm1 T st9 hI => ?_) _ _ _ ⟨0, rfl, (K.sub rfl), M.less (.refl _), (by rw [Nat.add_zero, Nat.zero_add])⟩;obtain ⟨j, rfl, K, M, hj⟩ := hI;refine Qf 2 K M fun _ K => ?_;obtain ⟨v9, st9, ev9, rfl, q9⟩ := F5 M.fresh (h.next (M.Ql (k := 1) rfl) (h.run.mem M Q3) Qq) j Qq;refine p1 K (Qe rfl ev9) fun _ K => ?_;replace M := M.quiet q9;refine Qf 1 K M fun _ K => ?_;refine oB K (QH rfl) rfl fun b11 _ e11 K => ?_;cases b11
   · replace e11 := of_decide_eq_false e11;refine Qf 2 K M fun _ K => ?_;refine M7 K rfl rfl (QH rfl) rfl fun b14 _ e14 K => ?_;cases b14
     · replace e14 := of_decide_eq_false e14;refine Qf 12 K M fun _ K => ?_;refine Un ?_
       have hm : JM (L.drop (n + j)) = 0 := by
              first
                | exact D8 ‹_› ‹_› ‹_›
                | (exfalso; obtain rfl : j = 0 := by omega
                   exact absurd hc ‹_›)
       obtain rfl : j = JM (L.drop n) := by omega
       exact ⟨(K.sub rfl), M.less (.refl _)⟩
     · replace e14 := of_decide_eq_true e14;refine Qf 2 K M fun _ K => ?_;obtain ⟨v17, st17, ev17, rfl, q17⟩ := F5 M.fresh (h.next (M.Ql (k := 1) rfl) (h.run.mem M Q3) Qq) j Qq;refine pg K rfl rfl (Qe rfl ev17) fun _ K => ?_;replace M := M.quiet q17;refine Qf 1 K M fun _ K => ?_;refine M7 K rfl rfl (QH rfl) rfl fun b19 _ e19 K => ?_;cases b19
       · replace e19 := of_decide_eq_false e19;refine Qf 2 K M fun _ K => ?_;obtain ⟨v22, st22, ev22, rfl, q22⟩ := BB M.fresh (h.next (M.Ql (k := 1) rfl) (h.run.mem M Q3) Qq) j Qq 39;refine pg K rfl rfl (Qe rfl ev22) fun _ K => ?_;replace M := M.quiet q22;refine Qf 3 K M fun _ K => ?_;refine Uj K rfl (fun h25 => ?_) fun h25 => ?_
         · refine Qf 3 K M fun _ K => ?_;have hm := KF (L := L) (j := n + j) (by first | exact .inl ‹_› | exact .inr (.inl ‹_›) | exact .inr (.inr ‹_›));exact ⟨_, Qq, j + 1, rfl, (K.sub rfl), M.less (.refl _), (by rw [← Nat.add_assoc]; omega)⟩
         · refine Un ?_
           have hm : JM (L.drop (n + j)) = 0 := by
              first
                | exact D8 ‹_› ‹_› ‹_›
                | (exfalso; obtain rfl : j = 0 := by omega
                   exact absurd hc ‹_›)
           obtain rfl : j = JM (L.drop n) := by omega
           exact ⟨(K.sub rfl), M.less (.refl _)⟩
       · replace e19 := of_decide_eq_true e19;refine Qf 10 K M fun _ K => ?_;have hm := KF (L := L) (j := n + j) (by first | exact .inl ‹_› | exact .inr (.inl ‹_›) | exact .inr (.inr ‹_›));exact ⟨_, Qq, j + 1, rfl, (K.sub rfl), M.less (.refl _), (by rw [← Nat.add_assoc]; omega)⟩
   · replace e11 := of_decide_eq_true e11;refine Qf 18 K M fun _ K => ?_;have hm := KF (L := L) (j := n + j) (by first | exact .inl ‹_› | exact .inr (.inl ‹_›) | exact .inr (.inr ‹_›));exact ⟨_, Qq, j + 1, rfl, (K.sub rfl), M.less (.refl _), (by rw [← Nat.add_assoc]; omega)⟩
 · obtain ⟨K, M⟩ := hJ;refine Qf 1 K M fun _ K => ?_;refine oQ K M (SQ M.fresh (h.next (M.Ql (k := 1) rfl) (h.run.mem M Q3) Qq) Qq) rfl rfl fun _ _ K M => ?_;refine au 5 K M ?_;intro c5 _ _ K _ M;refine oQ K M (jC M.fresh (h.next (M.Ql (k := 2) rfl) (h.run.mem M Q3) Qq) ((JM (L.drop n))) Qq) rfl rfl fun _ _ K M => ?_;refine p1 K (Uv rfl) fun _ K => Xs ?_;show W _ _ _ _ _ _ _;refine AH (J := fun T st9 => ∃ (z : Int), JC [(0, .ptr g 0 0), (2, .ptr c2 0 0), (3, .bool false), (4, iZ (JM (L.drop n) : Nat)), (5, .ptr c5 0 0), (6, iZ z)] T ∧ Mem st.h.get st.n [g] st9 [(c5, 0, [iZ 1, .str [], iZ 0, iZ (Q5 (Jq (bytesOf l) bad) L (n) : Nat)]), (c2, 0, [iZ 0, .str [], iZ 0, iZ 0]), (g, 0, [.str l, ks, iZ (JR bad), iN n])] ∧ z = ((Q5 (Jq (bytesOf l) bad) L (n + JM (L.drop n)) : Nat) : Int)) ?_ (fun T st9 hJ => ?_)
   · refine Ud ?_;refine QR (l := [(0, 0), (1, 0), (2, 0), (3, 0), (4, 0), (5, 0), (6, 0), (7, 0), (8, 0), (9, 0), (10, 0), (11, 0), (12, 0), (13, 0), (14, 0), (15, 0), (16, 0), (17, 0), (18, 0)]) (by kernel_rfl) ?_;refine JL 10 K M fun _ K => ?_;refine q1 rfl K (JJ YZ rfl rfl (h.run.mem M Q3).len) fun _ K => q1 rfl K (BK rfl rfl) fun _ K => ?_;refine dB rfl K (QH rfl) rfl rfl fun b46 _ e46 K => ?_;cases b46
     · replace e46 := of_decide_eq_false e46;refine Yf rfl K rfl rfl rfl rfl fun _ _ K => Yf rfl K rfl rfl rfl rfl fun _ _ K => Yf rfl K rfl rfl rfl rfl fun _ _ K => Yf rfl K rfl rfl rfl rfl fun _ _ K => Yf rfl K rfl rfl rfl rfl fun _ _ K => ?_;refine JL 1 K M fun _ K => ?_;refine QY ?_;show W _ _ _ _ _ _ _;refine Qf 1 K M fun _ K => ?_
       exact ⟨_, (K.sub rfl), M.less (.refl _), (by first
              | (rw [Aa Qq])
              | (obtain ⟨q, rfl⟩ := Kh ‹_›; rw [Zd Qq]; rfl)
              | (rw [Ki (bad := bad) ‹_›, Zd Qq, Zd Qq, On]))⟩
     · replace e46 := of_decide_eq_true e46;refine JL 6 K M fun _ K => ?_;refine QY ?_;show W _ _ _ _ _ _ _;refine Uj K rfl (fun h52 => ?_) fun h52 => ?_
       · replace h52 := of_decide_eq_true h52;refine Qf 5 K M fun _ K => ?_
         exact ⟨_, (K.sub rfl), M.less (.refl _), (by first
              | (rw [Aa Qq])
              | (obtain ⟨q, rfl⟩ := Kh ‹_›; rw [Zd Qq]; rfl)
              | (rw [Ki (bad := bad) ‹_›, Zd Qq, Zd Qq, On]))⟩
       · replace h52 := of_decide_eq_false h52;refine Yd ?_
         exact ⟨_, (K.sub rfl), M.less (.refl _), (by first
              | (rw [Aa Qq])
              | (obtain ⟨q, rfl⟩ := Kh ‹_›; rw [Zd Qq]; rfl)
              | (rw [Ki (bad := bad) ‹_›, Zd Qq, Zd Qq, On]))⟩
   · obtain ⟨z, K, M, rfl⟩ := hJ;refine Ud ?_;refine QR (l := [(0, 0), (1, 0), (2, 0), (3, 0), (4, 0), (5, 0), (6, 0), (7, 0), (8, 0), (9, 0)]) (by kernel_rfl) ?_;refine JL 7 K M fun _ K => ?_;refine q1 rfl K (M3 (a := (Q5 (Jq (bytesOf l) bad) L (n))) (b := (Q5 (Jq (bytesOf l) bad) L (n + JM (L.drop n)))) UF rfl rfl rfl (h.mono n (n + JM (L.drop n)) Qq).1 (h.mono n (n + JM (L.drop n)) Qq).2) fun _ K => ?_;refine JL 1 K M fun _ K => ?_;refine Ju (k := 0) rfl K M rfl rfl rfl Gv rfl rfl rfl fun _ M => ?_;refine QY ?_;show W _ _ _ _ _ _ _;refine au 12 K M ?_;intro _ _ K _ M;refine oQ K M (js M.fresh (((l).drop (Q5 (Jq (bytesOf l) bad) L (n))).take (Q5 (Jq (bytesOf l) bad) L (n + JM (L.drop n)) - Q5 (Jq (bytesOf l) bad) L (n)))) rfl rfl fun _ _ K M => ?_;refine Qf 0 K M fun _ K => ?_;refine Uj K rfl (fun h77 => ?_) fun h77 => ?_
     · refine au 7 K M ?_;intro _ _ K _ M;refine JX ⟨.inr rfl, _, (X4 (UU K rfl (M.load (k := 1) rfl (QO U6 rfl))) (J6 K rfl)), ?_⟩;exact ⟨(by rw [if_pos h77]), M.Uh, h.next (M.Ql (k := 2) rfl) (h.run.mem M Q3) Qq⟩
     · refine au 5 K M ?_;intro _ _ K _ M;refine JX ⟨.inr rfl, _, (X4 (UU K rfl (M.load (k := 1) rfl (QO U6 rfl))) (J6 K rfl)), ?_⟩;exact ⟨(by rw [if_neg (by rw [h77]; decide)]), M.Uh, h.next (M.Ql (k := 2) rfl) (h.run.mem M Q3) Qq⟩

theorem Rr(hf:QC st){bad:Option Nat}(h:OI st.h.get g l ks L bad n)(hn:n<L.length): ∃v st',Ev Tryz.prog Jy 77 [.ptr g 0 0] st v st'∧v=.tup [.agg [iZ 2,.str [],iZ (Ua 1000 0 (L.drop n):Nat),iZ (Q5 (Jq (bytesOf l) bad) L (n):Nat)],.bool (decide (((Ua 1000 0 (L.drop n):Nat):Int)≤99)&& !(Hy L n 48&&decide (1<((Zh (L.drop n):Nat):Int))))]∧Vq [g] st st'∧OI st'.h.get g l ks L bad (n+Zh (L.drop n)):=by
 have hrl:= @Wl L;have hfew:=h.few;have hle:=h.le;have hsz:=h.size;have hml:=IA (L.drop n);have hdl:=Tz (L.drop n);rw[List.length_drop]at hml hdl;refine Zw Tryz.func77 Tryz.ntmps77 fun T K=>?_;have M:=Mem.JV hf h.row;refine au 3 K M ?_;intro c2 _ _ K _ M;refine oQ K M (SQ M.fresh (h.next (M.Ql (k:=1) rfl) (h.run.mem M Q3) Qq) Qq) rfl rfl fun _ _ K M=>?_;refine au 4 K M ?_;intro c4 _ _ K _ M;refine oQ K M (BB M.fresh (h.next (M.Ql (k:=2) rfl) (h.run.mem M Q3) Qq) 0 Qq 48) rfl rfl fun _ _ K M=>?_;refine p1 K (Uv rfl) fun _ K=>Xs ?_;show W _ _ _ _ _ _ _;refine Ud<|Yo<|p1 K (Uv rfl) fun _ K=>Xs ?_;show W _ _ _ _ _ _ _;refine AH (J:=fun T st9=>JC [(0,.ptr g 0 0),(2,.ptr c2 0 0),(3,.bool false),(4,.ptr c4 0 0),(5,.bool (Hy L (n+0) 48)),(6,iZ (Zh (L.drop n):Nat))] T∧Mem st.h.get st.n [g] st9 [(c4,0,[iZ 2,.str [],iZ (Ua 1000 0 (L.drop n):Nat),iZ (Q5 (Jq (bytesOf l) bad) L (n):Nat)]),(c2,0,[iZ 0,.str [],iZ 0,iZ 0]),(g,0,[.str l,ks,iZ (JR bad),iN n])]) ?_ (fun T st9 hJ=>?_)
 ·refine F3 ?_;refine UM (fun mm1 T st9=> ∃(j a:Nat),mm1=Zh (L.drop n)-j∧JC [(0,.ptr g 0 0),(2,.ptr c2 0 0),(3,.bool false),(4,.ptr c4 0 0),(5,.bool (Hy L (n+0) 48)),(6,iN j)] T∧Mem st.h.get st.n [g] st9 [(c4,0,[iZ 2,.str [],iN a,iZ (Q5 (Jq (bytesOf l) bad) L (n):Nat)]),(c2,0,[iZ 0,.str [],iZ 0,iZ 0]),(g,0,[.str l,ks,iZ (JR bad),iN n])]∧a≤1000∧Ua 1000 a (L.drop (n+j))=Ua 1000 0 (L.drop n)∧j+Zh (L.drop (n+j))=Zh (L.drop n)) (fun mm1 T st9 hI=>?_) _ _ _ ⟨0,0,rfl,(K.sub rfl),M.less (.refl _),Qz,rfl,(by rw[Nat.add_zero,Nat.zero_add])⟩;obtain⟨j,a,rfl,K,M,ha,hnum,hdig⟩:=hI;refine Qf 2 K M fun _ K=>?_;refine oQ K M (F5 M.fresh (h.next (M.Ql (k:=2) rfl) (h.run.mem M Q3) Qq) j Qq) rfl rfl fun _ _ K M=>?_;refine Qf 1 K M fun _ K=>?_;refine Uj K rfl (fun h15=>?_) fun h15=>?_
  ·replace h15:=of_decide_eq_true h15;refine Qf 0 K M fun _ K=>?_;refine QR (l:=[(0,0),(1,0),(2,0),(3,0),(4,0),(5,0),(6,0),(7,0),(8,0),(9,0),(10,0),(11,0),(12,0),(13,0),(14,0),(15,0),(16,0),(17,0),(18,0),(19,0),(20,0),(21,0)]) (by kernel_rfl) ?_;refine JL 2 K M fun _ K=>?_;refine q1 rfl K (zZ (c:=10 *((a:Nat):Int)) rfl rfl (IntWalk.i64_in _ Qq)) fun _ K=>?_;refine JL 10 K M fun _ K=>?_
   have hn29:(n+j)<L.length:=by first|omega|exact Fm Qq
   obtain⟨rc29,ra29,hr29,hd29⟩:=ZU hn29;have hg29:=eu (c:=rc29) (by first|(rw[←Xj hr29];assumption));obtain⟨x29,m29,f29,q29,_,la29,lo29,lp29⟩:=(h.run.mem M Q3).load (i:=(n+j)) (cs:=_) (B8 hr29);refine q1 rfl K (Qo VA (congrArg some q29) rfl (by rw[Wl];exact hn29)) fun _ K=>?_;refine JL 1 K M fun _ K=>?_;refine q1 rfl K (Je rfl (lo29 _ 0 _ Ik rfl)) fun _ K=>q1 rfl K (zX (c:=(rc29:Int)-48) rfl rfl (IntWalk.i32_in _ Qq)) fun _ K=>q1 rfl K (NK (c:=((rc29:Int)-48)) Nl CH rfl (IntWalk.i64_in _ Qq)) fun _ K=>?_;refine JL 1 K M fun _ K=>?_;refine q1 rfl K (BJ rfl rfl) fun _ K=>?_;refine JL 1 K M fun _ K=>?_;refine Ju (k:=0) rfl K M rfl rfl rfl Rj rfl rfl rfl fun _ M=>?_;refine QY ?_;show W _ _ _ _ _ _ _;refine Qf 3 K M fun _ K=>?_;rw[show((min (((10 *((a:Nat):Int))+((rc29:Int)-48))) 1000))=((min (a *10+(rc29-48)) 1000:Nat):Int) by omega]at M;rw[hd29,uf hg29.1]at hnum;rw[hd29,y7 hg29.1]at hdig;exact⟨_,Qq,j+1,min (a *10+(rc29-48)) 1000,rfl,(K.sub rfl),M.less (.refl _),(Nat.min_le_right _ _),hnum,(by rw[←Nat.add_assoc];omega)⟩
  ·replace h15:=of_decide_eq_false h15;refine Un ?_;obtain⟨hs1,hs2⟩:=ue (cap:=1000) (a:=a) ‹Jo L (n+j)≠2›
   obtain rfl:a=Ua 1000 0 (L.drop n):=by omega
   obtain rfl:j=Zh (L.drop n):=by omega
   exact⟨(K.sub rfl),M.less (.refl _)⟩
 ·obtain⟨K,M⟩:=hJ;refine au 14 K M ?_;intro _ _ K _ M;refine oB K (QH rfl) rfl fun b52 _ e52 K=>?_;cases b52
  ·replace e52:=of_decide_eq_false e52;refine au 9 K M ?_;intro _ _ K _ M;refine JX ⟨.inr rfl,_,(X4 (UU K rfl (M.load (k:=1) rfl (QO U6 rfl))) (J6 K rfl)),?_⟩
   exact⟨congrArg AV.tup (congrArg (fun b=>[AV.agg _,AV.bool b]) (by simp_all [Qs]<;>(intro h0;omega))),M.Uh,h.next (M.Ql (k:=2) rfl) (h.run.mem M Q3) Qq⟩
  ·replace e52:=of_decide_eq_true e52;refine Qf 1 K M fun _ K=>?_;refine M7 K rfl rfl (QH rfl) rfl fun b54 _ e54 K=>?_;cases b54
   ·refine au 7 K M ?_;intro _ _ K _ M;refine JX ⟨.inr rfl,_,(X4 (UU K rfl (M.load (k:=1) rfl (QO U6 rfl))) (J6 K rfl)),?_⟩
    exact⟨congrArg AV.tup (congrArg (fun b=>[AV.agg _,AV.bool b]) (by simp_all [Qs]<;>(intro h0;omega))),M.Uh,h.next (M.Ql (k:=2) rfl) (h.run.mem M Q3) Qq⟩
   ·refine au 7 K M ?_;intro _ _ K _ M;refine JX ⟨.inr rfl,_,(X4 (UU K rfl (M.load (k:=1) rfl (QO U6 rfl))) (J6 K rfl)),?_⟩
    exact⟨congrArg AV.tup (congrArg (fun b=>[AV.agg _,AV.bool b]) (by simp_all [Qs]<;>(intro h0;omega))),M.Uh,h.next (M.Ql (k:=2) rfl) (h.run.mem M Q3) Qq⟩
end Go.Proofs.YtmgkfceomhagaaaGreatDoor
