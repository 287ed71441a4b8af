/-
  The reader of 'sibylref2': 'class', 'is', 'at', 'skip'.
-/
import Derived.Test.YtaomhhkflohhgaaGreatDoorMgAu
set_option maxHeartbeats 8000000
set_option maxRecDepth 100000
set_option linter.unusedVariables false
namespace Go.Proofs.YtaomhhkflohhgaaGreatDoor
open Go Go.RowKit
section
variable {L:List (Nat×Nat)} {g n:Nat} {ks:AV} {l:List Nat} {st:St}

theorem uW(hf:Qw st)(r:Int): ∃v st',Ev Tryz.prog QR 80 [.int .i32 r] st v st'∧v=.int .i64 (QM r)∧Qt st st':=⟨_,_,zB (F:=BI) rfl rfl,rfl,Qt.refl hf⟩

theorem FP(hf:Qw st){bad:Option Nat}(h:OD st.h.get g l ks L bad n)(k:Nat)(hk:k≤100000): ∃v st',Ev Tryz.prog QR 64 [.ptr g 0 0,iN k] st v st'∧v=iZ (Jb L (n+k))∧Qt st st':=by
 have hrl:= @Wj L;have hfew:=h.few;have hle:=h.le;have hsz:=h.size;refine Yu Tryz.func64 Tryz.ntmps64 fun T K=>?_;have M:=Mem.start hf;refine Qc 1 K M fun _ K=>?_;refine Ja (l:=[(0,0),(1,0),(2,0),(3,0),(4,0),(5,0),(6,0),(7,0),(8,0),(9,0),(10,0),(11,0)]) (by kernel_rfl) ?_;refine Ui 3 K M fun _ K=>?_;refine q1 rfl K (QW rfl (Yh (M.AQ Q3 h.row.YQ) (Qj QH rfl))) fun _ K=>?_;refine Ui 5 K M fun _ K=>?_;refine q1 rfl K (QW rfl (Yh (M.AQ Q3 h.row.YQ) (Qj YE rfl))) fun _ K=>q1 rfl K (Jg YD rfl rfl (h.run.mem M Q3).len) fun _ K=>q1 rfl K (N5 rfl rfl) fun _ K=>Ji ?_;show W _ _ _ _ _ _ _;refine JU K rfl (fun h16=>?_) fun h16=>?_
 ·replace h16:=of_decide_eq_true h16;refine Qc 1 K M ?_;exact⟨by rw[Ov Qh],M.qt⟩
 ·replace h16:=of_decide_eq_false h16;refine Qc 0 K M fun _ K=>?_;refine Ja (l:=[(0,0),(1,0),(2,0),(3,0),(4,0),(5,0),(6,0),(7,0),(8,0),(9,0),(10,0),(11,0),(12,0),(13,0),(14,0)]) (by kernel_rfl) ?_;refine Ui 3 K M fun _ K=>?_;refine q1 rfl K (QW rfl (Yh (M.AQ Q3 h.row.YQ) (Qj YE rfl))) fun _ K=>?_;refine Ui 3 K M fun _ K=>?_;refine q1 rfl K (QW rfl (Yh (M.AQ Q3 h.row.YQ) (Qj QH rfl))) fun _ K=>?_;refine Ui 2 K M fun _ K=>?_;obtain⟨rc27,ra27,hr27,hd27⟩:=Z6 (L:=L) (n:=(n+k)) Qh;obtain⟨x27,m27,f27,q27,_,la27,lo27,lp27⟩:=(h.run.mem M Q3).load (i:=(n+k)) (cs:=_) (BK hr27);refine q1 rfl K (Q5 V2 (congrArg some q27) rfl (by simp;omega)) fun _ K=>?_;refine Ui 1 K M fun _ K=>?_;refine q1 rfl K (QW rfl (lo27 _ 0 _ ID rfl)) fun _ K=>?_;obtain⟨v30,st30,ev30,rfl,q30⟩:=uW M.fresh (rc27:Int);refine qA rfl K (Qe rfl ev30) fun _ K=>?_;have Mp:=M;replace M:=M.quiet q30;refine q1 rfl K (JH rfl) fun _ K=>Ji ?_;show W _ _ _ _ _ _ _;refine Qc 0 K M ?_;exact⟨by rw[ZT hr27],M.qt⟩

theorem BL(hf:Qw st){bad:Option Nat}(h:OD st.h.get g l ks L bad n)(k:Nat)(hk:k≤100000)(c:Int): ∃v st',Ev Tryz.prog QR 65 [.ptr g 0 0,iN k,.int .i32 c] st v st'∧v=.bool (Il L (n+k) c)∧Qt st st':=by
 have hrl:= @Wj L;have hfew:=h.few;have hle:=h.le;have hsz:=h.size;refine Yu Tryz.func65 Tryz.ntmps65 fun T K=>?_;have M:=Mem.start hf;refine Qc 1 K M fun _ K=>?_;refine Ja (l:=[(0,0),(1,0),(2,0),(3,0),(4,0),(5,0),(6,0),(7,0),(8,0),(9,0),(10,0),(11,0),(12,0),(13,0),(14,0),(15,0),(16,0),(17,0),(18,0),(19,0),(20,0),(21,0),(22,0),(23,0),(24,0),(25,0),(26,0),(27,0),(28,0),(29,0)]) (by kernel_rfl) ?_;refine Ui 3 K M fun _ K=>?_;refine q1 rfl K (QW rfl (Yh (M.AQ Q3 h.row.YQ) (Qj QH rfl))) fun _ K=>?_;refine Ui 5 K M fun _ K=>?_;refine q1 rfl K (QW rfl (Yh (M.AQ Q3 h.row.YQ) (Qj YE rfl))) fun _ K=>q1 rfl K (Jg YD rfl rfl (h.run.mem M Q3).len) fun _ K=>q1 rfl K (Rf rfl rfl) fun _ K=>?_;refine dB rfl K (Q9 rfl) rfl rfl fun b19 _ e19 K=>?_;cases b19
 ·replace e19:=of_decide_eq_false e19;refine Z1 rfl K rfl rfl rfl rfl fun _ _ K=>Z1 rfl K rfl rfl rfl rfl fun _ _ K=>Z1 rfl K rfl rfl rfl rfl fun _ _ K=>Z1 rfl K rfl rfl rfl rfl fun _ _ K=>Z1 rfl K rfl rfl rfl rfl fun _ _ K=>Z1 rfl K rfl rfl rfl rfl fun _ _ K=>Z1 rfl K rfl rfl rfl rfl fun _ _ K=>Z1 rfl K rfl rfl rfl rfl fun _ _ K=>Z1 rfl K rfl rfl rfl rfl fun _ _ K=>?_;refine Z1 rfl K rfl rfl rfl rfl fun _ _ K=>Z1 rfl K rfl rfl rfl rfl fun _ _ K=>Z1 rfl K rfl rfl rfl rfl fun _ _ K=>Z1 rfl K rfl rfl rfl rfl fun _ _ K=>Z1 rfl K rfl rfl rfl rfl fun _ _ K=>Z1 rfl K rfl rfl rfl rfl fun _ _ K=>?_;refine Ui 2 K M fun _ K=>?_;refine Ji ?_;show W _ _ _ _ _ _ _;refine Qc 0 K M ?_;exact⟨(by rw[Rs Qh];rfl),M.qt⟩
 ·replace e19:=of_decide_eq_true e19;refine Ui 3 K M fun _ K=>?_;refine dg rfl K rfl rfl (QW rfl (Yh (M.AQ Q3 h.row.YQ) (Qj YE rfl))) rfl rfl fun _ K=>?_;refine Ui 3 K M fun _ K=>?_;refine dg rfl K rfl rfl (QW rfl (Yh (M.AQ Q3 h.row.YQ) (Qj QH rfl))) rfl rfl fun _ K=>?_;refine Ui 2 K M fun _ K=>?_;obtain⟨rc30,ra30,hr30,hd30⟩:=Z6 (L:=L) (n:=(n+k)) Qh;obtain⟨x30,m30,f30,q30,_,la30,lo30,lp30⟩:=(h.run.mem M Q3).load (i:=(n+k)) (cs:=_) (BK hr30);refine dg rfl K rfl rfl (Q5 V2 (congrArg some q30) rfl (by simp;omega)) rfl rfl fun _ K=>?_;refine Ui 1 K M fun _ K=>?_;refine dg rfl K rfl rfl (QW rfl (lo30 _ 0 _ ID rfl)) rfl rfl fun _ K=>?_;refine Ui 4 K M fun _ K=>?_;refine Ji ?_;show W _ _ _ _ _ _ _;refine Qc 0 K M ?_;exact⟨(by rw[E6 hr30];rfl),M.qt⟩

theorem qS(hf:Qw st){bad:Option Nat}(h:OD st.h.get g l ks L bad n)(k:Nat)(hk:k≤100000): ∃v st',Ev Tryz.prog QR 41 [.ptr g 0 0,iN k] st v st'∧v=iZ (Q7 l.length L (n+k):Nat)∧Qt st st':=by
 have hrl:= @Wj L;have hfew:=h.few;have hle:=h.le;have hsz:=h.size;refine Yu Tryz.func41 Tryz.ntmps41 fun T K=>?_;have M:=Mem.start hf;refine Qc 1 K M fun _ K=>?_;refine Ja (l:=[(0,0),(1,0),(2,0),(3,0),(4,0),(5,0),(6,0),(7,0),(8,0),(9,0),(10,0),(11,0)]) (by kernel_rfl) ?_;refine Ui 3 K M fun _ K=>?_;refine q1 rfl K (QW rfl (Yh (M.AQ Q3 h.row.YQ) (Qj QH rfl))) fun _ K=>?_;refine Ui 5 K M fun _ K=>?_;refine q1 rfl K (QW rfl (Yh (M.AQ Q3 h.row.YQ) (Qj YE rfl))) fun _ K=>q1 rfl K (Jg YD rfl rfl (h.run.mem M Q3).len) fun _ K=>q1 rfl K (N5 rfl rfl) fun _ K=>Ji ?_;show W _ _ _ _ _ _ _;refine JU K rfl (fun h16=>?_) fun h16=>?_
 ·replace h16:=of_decide_eq_true h16;refine Qc 3 K M fun _ K=>?_;refine p1 K (QW rfl (Yh (M.AQ Q3 h.row.YQ) (Qj J0 rfl))) fun _ K=>p1 K (Vz Up rfl rfl) fun _ K=>?_;refine Qc 1 K M ?_;exact⟨by rw[YG Qh],M.qt⟩
 ·replace h16:=of_decide_eq_false h16;refine Qc 0 K M fun _ K=>?_;refine Ja (l:=[(0,0),(1,0),(2,0),(3,0),(4,0),(5,0),(6,0),(7,0),(8,0),(9,0),(10,0),(11,0),(12,0),(13,0)]) (by kernel_rfl) ?_;refine Ui 3 K M fun _ K=>?_;refine q1 rfl K (QW rfl (Yh (M.AQ Q3 h.row.YQ) (Qj YE rfl))) fun _ K=>?_;refine Ui 3 K M fun _ K=>?_;refine q1 rfl K (QW rfl (Yh (M.AQ Q3 h.row.YQ) (Qj QH rfl))) fun _ K=>?_;refine Ui 2 K M fun _ K=>?_;obtain⟨rc32,ra32,hr32,hd32⟩:=Z6 (L:=L) (n:=(n+k)) Qh;obtain⟨x32,m32,f32,q32,_,la32,lo32,lp32⟩:=(h.run.mem M Q3).load (i:=(n+k)) (cs:=_) (BK hr32);refine q1 rfl K (Q5 V2 (congrArg some q32) rfl (by simp;omega)) fun _ K=>?_;refine Ui 1 K M fun _ K=>?_;refine q1 rfl K (QW rfl (lo32 _ 1 _ QH rfl)) fun _ K=>q1 rfl K (JH rfl) fun _ K=>Ji ?_;show W _ _ _ _ _ _ _;refine Qc 0 K M ?_;exact⟨by rw[HV hr32],M.qt⟩

theorem Sk(hf:Qw st){bad:Option Nat}(h:OD st.h.get g l ks L bad n): ∃v st',Ev Tryz.prog QR 64 [.ptr g 0 0,.int .i64 0] st v st'∧v=.int .i64 (Jb L n)∧Qt st st':=FP hf h 0 QT
theorem xI(hf:Qw st){bad:Option Nat}(h:OD st.h.get g l ks L bad n)(c:Int): ∃v st',Ev Tryz.prog QR 65 [.ptr g 0 0,.int .i64 0,.int .i32 c] st v st'∧v=.bool (Il L n c)∧Qt st st':=BL hf h 0 QT c
theorem eF(hf:Qw st){bad:Option Nat}(h:OD st.h.get g l ks L bad n): ∃v st',Ev Tryz.prog QR 41 [.ptr g 0 0,.int .i64 0] st v st'∧v=.int .i64 (Q7 l.length L n:Nat)∧Qt st st':=qS hf h 0 QT

theorem CY(hf:Qw st){bad:Option Nat}(h:OD st.h.get g l ks L bad n): ∃v st',Ev Tryz.prog QR 40 [.ptr g 0 0] st v st'∧v=.tup []∧Ad [g] st st'∧OD st'.h.get g l ks L bad (n+QY false (L.drop n)):=by
 have hrl:= @Wj L;have hfew:=h.few;have hle:=h.le;have hsz:=h.size;refine Yu Tryz.func40 Tryz.ntmps40 fun T K=>?_;have M:=Mem.UP hf h.row;refine Wh ?_;refine JQ (fun mm1 T st9=> ∃(k:Nat),mm1=L.length-k∧Jr [(0,.ptr g 0 0)] T∧Mem st.h.get st.n [g] st9 [(g,0,[.str l,ks,iZ (JB bad),iN k])]∧k≤L.length∧k+QY false (L.drop k)=n+QY false (L.drop n)) (fun mm1 T st9 hI=>?_) _ _ _ ⟨n,rfl,(.cons (K _ _ rfl) .nil),M.less (.refl _),h.le,rfl⟩;obtain⟨k,rfl,K,M,hk,hb⟩:=hI;refine VY (J:=fun T st9=>Jr [(0,.ptr g 0 0)] T∧Mem st.h.get st.n [g] st9 [(g,0,[.str l,ks,iZ (JB bad),iN k])]∧(Jb L k=3∨Il L k 35=true)) ?_ (fun T st9 hJ=>?_)
 ·refine Qc 1 K M fun _ K=>?_;refine oQ K M (Sk M.fresh (h.next (M.Qn (k:=0) rfl) (h.run.mem M Q3) Qh)) rfl rfl fun _ _ K M=>?_;refine Qc 1 K M fun _ K=>?_;refine oB K (Q9 rfl) rfl fun b6 _ e6 K=>?_;cases b6
  · replace e6:=of_decide_eq_false e6;refine Qc 1 K M fun _ K=>?_;obtain⟨v8,st8,ev8,rfl,q8⟩:=xI M.fresh (h.next (M.Qn (k:=0) rfl) (h.run.mem M Q3) Qh) 35;refine pg K rfl rfl (Qe rfl ev8) fun _ K=>?_;replace M:=M.quiet q8;refine Qc 1 K M fun _ K=>?_;refine JU K rfl (fun h9=>?_) fun h9=>?_
    · refine JM ?_;exact⟨(.cons (K _ _ rfl) .nil),M.less (.refl _),(by first|exact .inl ‹_›|exact .inr ‹_›)⟩
    · refine Jx ?_;refine⟨.inl rfl,_,Fq,?_⟩;exact⟨rfl,M.Us,by rw[←hb,ye ‹_› (by simpa using‹_›)];exact h.next (M.Qn (k:=0) rfl) (h.run.mem M Q3) hk⟩
  · replace e6:=of_decide_eq_true e6;refine Qc 4 K M fun _ K=>?_;exact⟨(.cons (K _ _ rfl) .nil),M.less (.refl _),(by first|exact .inl ‹_›|exact .inr ‹_›)⟩
 ·obtain⟨K,M,hor⟩:=hJ;refine Qc 1 K M fun _ K=>?_;refine oQ K M (xI M.fresh (h.next (M.Qn (k:=0) rfl) (h.run.mem M Q3) Qh) 35) rfl rfl fun _ _ K M=>?_;refine au 9 K M ?_;intro _ _ K _ M
  have hlt:k<L.length:=by
   rcases hor with h|h
   · exact FC Qh
   · exact Ca h
  refine JQ (fun mm2 T st9=> ∃(j:Nat),mm2=L.length-j∧Jr [(0,.ptr g 0 0),(2,.bool (Il L k 35))] T∧Mem st.h.get st.n [g] st9 [(g,0,[.str l,ks,iZ (JB bad),iN j])]∧k+1≤j∧j≤L.length∧j+cG (Il L k 35) (L.drop j)=k+1+cG (Il L k 35) (L.drop (k+1))) (fun mm2 T st9 hI=>?_) _ _ _ ⟨k+1,rfl,(K.sub rfl),M.less (.refl _),(Nat.le_refl _),hlt,rfl⟩;obtain⟨j,rfl,K,M,hkj,hj,hc⟩:=hI;refine UR<|UR ?_;refine Ja (l:=[(0,0),(1,0),(2,0),(3,0),(4,0),(5,0),(6,0),(7,0),(8,0),(9,0),(10,0),(11,0),(12,0),(13,0),(14,0),(15,0),(16,0),(17,0)]) (by kernel_rfl) ?_;refine q1 rfl K (Q9 rfl) fun _ K=>?_;refine dB rfl K (Q9 rfl) rfl rfl fun b20 _ e20 K=>?_;cases b20
  · refine Z1 rfl K rfl rfl rfl rfl fun _ _ K=>Z1 rfl K rfl rfl rfl rfl fun _ _ K=>Z1 rfl K rfl rfl rfl rfl fun _ _ K=>Z1 rfl K rfl rfl rfl rfl fun _ _ K=>Z1 rfl K rfl rfl rfl rfl fun _ _ K=>Z1 rfl K rfl rfl rfl rfl fun _ _ K=>Z1 rfl K rfl rfl rfl rfl fun _ _ K=>Z1 rfl K rfl rfl rfl rfl fun _ _ K=>Z1 rfl K rfl rfl rfl rfl fun _ _ K=>?_;refine Z1 rfl K rfl rfl rfl rfl fun _ _ K=>?_;refine Ui 2 K M fun _ K=>?_;refine Z1 rfl K rfl rfl rfl rfl fun _ _ K=>Z1 rfl K rfl rfl rfl rfl fun _ _ K=>Z1 rfl K rfl rfl rfl rfl fun _ _ K=>?_;refine Ui 1 K M fun _ K=>?_;refine Ji ?_;show W _ _ _ _ _ _ _;refine Qc 1 K M fun _ K=>?_;refine Jx ?_;have hc0:cG (Il L k 35) (L.drop j)=0:=Cq (by first|exact .inl ‹_›|exact .inr (.inr ‹_›)|exact .inr (.inl Qh));have hb1:=I1 hor;rw[hc0,Nat.add_zero]at hc;rw[←hc]at hb1;exact⟨_,Qh,j,rfl,(.cons (K _ _ rfl) .nil),M.less (.refl _),hj,Qh⟩
  · refine Ui 8 K M fun _ K=>?_;refine dg rfl K rfl rfl (Jg YD rfl rfl (h.run.mem M Q3).len) rfl rfl fun _ K=>?_;refine Ui 2 K M fun _ K=>?_;refine dB rfl K (Q9 rfl) rfl rfl fun b32 _ e32 K=>?_;cases b32
    · replace e32:=of_decide_eq_false e32;refine Z1 rfl K rfl rfl rfl rfl fun _ _ K=>Z1 rfl K rfl rfl rfl rfl fun _ _ K=>Z1 rfl K rfl rfl rfl rfl fun _ _ K=>?_;refine Ui 1 K M fun _ K=>?_;refine Ji ?_;show W _ _ _ _ _ _ _;refine Qc 1 K M fun _ K=>?_;refine Jx ?_;have hc0:cG (Il L k 35) (L.drop j)=0:=Cq (by first|exact .inl ‹_›|exact .inr (.inr ‹_›)|exact .inr (.inl Qh));have hb1:=I1 hor;rw[hc0,Nat.add_zero]at hc;rw[←hc]at hb1;exact⟨_,Qh,j,rfl,(.cons (K _ _ rfl) .nil),M.less (.refl _),hj,Qh⟩
    · replace e32:=of_decide_eq_true e32;refine Ui 1 K M fun _ K=>?_;obtain⟨v34,st34,ev34,rfl,q34⟩:=xI M.fresh (h.next (M.Qn (k:=0) rfl) (h.run.mem M Q3) Qh) 10;refine ao rfl K rfl rfl (Qe rfl ev34) rfl rfl fun _ K=>?_;have Mp:=M;replace M:=M.quiet q34;refine Ui 2 K M fun _ K=>?_;refine Ji ?_;show W _ _ _ _ _ _ _;refine JU K rfl (fun h36=>?_) fun h36=>?_
      ·replace h36:(Il L j 10)=false:=by simpa using h36
       refine au 8 K M ?_;intro _ _ K _ M;exact⟨_,Qh,j+1,rfl,(K.sub rfl),M.less (.refl _),Qh,Qh,(by rw[e20]at hc ⊢;rw[wV Qh (by simpa using h36)]at hc;omega)⟩
      ·replace h36:(Il L j 10)=true:=by simpa using h36
       refine Jx ?_;have hc0:cG (Il L k 35) (L.drop j)=0:=Cq (by first|exact .inl ‹_›|exact .inr (.inr ‹_›)|exact .inr (.inl Qh));have hb1:=I1 hor;rw[hc0,Nat.add_zero]at hc;rw[←hc]at hb1;exact⟨_,Qh,j,rfl,(.cons (K _ _ rfl) .nil),M.less (.refl _),hj,Qh⟩
end
section
variable {L:List (Nat×Nat)} {a c g n:Nat} {ks:AV} {l:List Nat} {st:St}

theorem Mem.eJ{h0:Hp}{n0:Nat}{M:List (Nat×Nat×List AV)}(hM:Mem h0 n0 [] st M){k m:Nat}{l:List AV}(hk:M[k]? =some (c,m,l)):n0≤c:=by
 rcases hM.own c m l (List.mem_of_getElem? hk)with h|h
 ·exact h
 ·cases h
theorem Hz{α:Type} [BEq α]{l:List α}{i:Nat}{w t:α}(h:l[i]? =some w):(l.drop i).contains t=(t==w||(l.drop (i+1)).contains t):=by
 obtain⟨h1,h2⟩:=List.getElem?_eq_some_iff.1 h;rw[List.drop_eq_getElem_cons h1,List.contains_cons,h2]
theorem Ao{b:Nat}(h:n<L.length):Q7 a L n=Q7 b L n:=by
 obtain⟨c,q,h1,_⟩:=Z6 h;rw[HV h1,HV h1]
theorem Of:Je (bytesOf l) none=l.length:=Jm l
theorem Sl(hf:Qw st){bad:Option Nat}(h:OD st.h.get g l ks L bad n)(hn:n<L.length): ∃v st',Ev Tryz.prog QR 41 [.ptr g 0 0,.int .i64 0] st v st'∧v=.int .i64 (Q7 (Je (bytesOf l) bad) L n:Nat)∧Qt st st':=by
 rw[Ao (b:=l.length) hn];exact eF hf h
theorem vv(h:QM (c:Int)=2):Y7 (c:Int)=true∧48≤c∧c≤57:=by
 have h:=Zc.1 h;refine⟨h,?_⟩;unfold Y7 at h;have h:=of_decide_eq_true h;omega
theorem jz{cap:Nat}{q:Nat}{r:List (Nat×Nat)}(h:Y7 (c:Int)=true):Uk cap a ((c,q)::r)=Uk cap (min (a *10+(c-48)) cap) r:=by rw[Uk,if_pos h]
theorem uQ{q:Nat}{r:List (Nat×Nat)}(h:Y7 (c:Int)=true):Z8 ((c,q)::r)=Z8 r+1:=by rw[Z8,if_pos h]
theorem jy{cap:Nat}{j:Nat}(h:Jb L j≠2):Uk cap a (L.drop j)=a∧Z8 (L.drop j)=0:=by
 by_cases hj:j<L.length
 ·obtain⟨c,q,h1,h2⟩:=Z6 hj;rw[ZT h1]at h;have hd: ¬Y7 (c:Int)=true:=fun e=>h (Zc.2 e);rw[h2,Uk,Z8,if_neg hd,if_neg hd];exact⟨rfl,rfl⟩
 ·rw[List.drop_eq_nil_of_le Qh];exact⟨rfl,rfl⟩
theorem SM: ∀r:List (Nat×Nat),Z8 r≤r.length:=by
 intro r
 induction r with
 |nil=>exact Nat.le_refl _
 |cons x r ih=>obtain⟨c,a⟩:=x;rw[Z8];split<;>simp<;>omega

theorem T6(hf:Qw st): ∃v st',Ev Tryz.prog QR 97 [] st v st'∧OE st st' 1 v (VO.map fun w=>[.str w])∧Qt st st':=by
 refine Yu Tryz.func97 Tryz.ntmps97 fun T K=>?_;have M:=Mem.start hf;refine au 3 K M ?_;intro c1 _ _ K _ M;refine Qc 0 K M ?_;exact⟨M.jI (L:=[]) (A:=[(c1,0,_)]) (B:=[]) (Acc.own (ls:=VO.map fun w=>[.str w]) (M.eJ (k:=0) rfl) Q3 QT),M.qt⟩

theorem qM(hf:Qw st)(t:List Nat): ∃v st',Ev Tryz.prog QR 81 [.str t] st v st'∧v=.bool (VO.contains t)∧Qt st st':=by
 have hwl:(VO.map fun w=>[AV.str w]).length=17:=rfl;have hwl0:VO.length=17:=rfl;refine Yu Tryz.func81 Tryz.ntmps81 fun T K=>?_;have M:=Mem.start hf;refine Qc 1 K M fun _ K=>?_;obtain⟨v5,st5,ev5,nr5,q5⟩:=T6 M.fresh;refine p1 K (Qe rfl ev5) fun _ K=>?_;obtain⟨A5,hA5,M⟩:=M.Wp q5 nr5;refine Qc 2 K M fun _ K=>?_;refine JQ (fun mm1 T st9=> ∃(i:Nat),mm1=17-i∧Jr [(0,.str t),(3,v5),(4,iN i)] T∧Mem st.h.get st.n [] st9 (A5++[])∧i≤17∧VO.contains t=(VO.drop i).contains t) (fun mm1 T st9 hI=>?_) _ _ _ ⟨0,rfl,(K.sub rfl),M.less (.refl _),QT,rfl⟩;obtain⟨i,rfl,K,M,hi,hc⟩:=hI;refine Qc 2 K M fun _ K=>?_;refine p1 K (Jg XG rfl rfl hA5.len) fun _ K=>?_;refine Qc 1 K M fun _ K=>?_;refine JU K rfl (fun h9=>?_) fun h9=>?_
 ·replace h9:=of_decide_eq_true h9;refine Qc 2 K M fun _ K=>?_;obtain⟨w14,hw14⟩: ∃w,VO[i]? =some w:=⟨_,List.getElem?_eq_getElem (by rw[hwl0];omega)⟩;obtain⟨x14,m14,f14,q14,_,la14,lo14,lp14⟩:=(M.LJ (L:=[]) (B:=[]) hA5).load (i:=i) (cs:=_) (by rw[List.getElem?_map,hw14];rfl);refine p1 K (Q5 Jz (congrArg some q14) rfl (by rw[hwl];omega)) fun _ K=>p1 K (QW rfl (lo14 _ 0 _ J0 rfl)) fun _ K=>?_;refine Qc 2 K M fun _ K=>?_;refine JU K rfl (fun h17=>?_) fun h17=>?_
  ·replace h17:=of_decide_eq_true h17;refine Qc 1 K M ?_;exact⟨by rw[hc,Hz hw14,←h17,beq_self_eq_true];rfl,M.less (.refl _)|>.qt⟩
  ·replace h17:=of_decide_eq_false h17;refine Qc 3 K M fun _ K=>?_;exact⟨_,Qh,i+1,rfl,(K.sub rfl),M.less (.refl _),Qh,(by rw[hc,Hz hw14,beq_false_of_ne (fun e=>h17 e.symm)];rfl)⟩
 ·replace h9:=of_decide_eq_false h9;refine Jx ?_;show W _ _ _ _ _ _ _;refine Qc 1 K M ?_;exact⟨by rw[hc,List.drop_eq_nil_of_le Qh];rfl,M.qt⟩

theorem qQ (hf : Qw st) {bad : Option Nat} (h : OD st.h.get g l ks L bad n) (hn : n < L.length) (hc : Jb L n = 1) : ∃ v st', Ev Tryz.prog QR 66 [.ptr g 0 0] st v st' ∧ v = .tup [.agg [iZ (if VO.contains ((l.drop (Q7 (Je (bytesOf l) bad) L (n))).take (Q7 (Je (bytesOf l) bad) L (n + Ul (L.drop n)) - Q7 (Je (bytesOf l) bad) L (n))) then 3 else 1), .str ((l.drop (Q7 (Je (bytesOf l) bad) L (n))).take (Q7 (Je (bytesOf l) bad) L (n + Ul (L.drop n)) - Q7 (Je (bytesOf l) bad) L (n))), iZ 0, iZ (Q7 (Je (bytesOf l) bad) L (n) : Nat)], .bool (decide (((Ul (L.drop n) : Nat) : Int) ≤ 12))] ∧ Ad [g] st st' ∧ OD st'.h.get g l ks L bad (n + Ul (L.drop n)) := by
 have hrl := @Wj L;have hfew := h.few;have hle := h.le;have hsz := h.size;have hml := NJ (L.drop n);have hdl := SM (L.drop n);rw [List.length_drop] at hml hdl;refine Yu Tryz.func66 Tryz.ntmps66 fun T K => ?_;have M := Mem.UP hf h.row;refine UR <| Uf ?_;refine C4 K M XS QT fun c2 _ _ K M => ?_;refine p1 K (JH rfl) fun _ K => Y5 ?_;show W _ _ _ _ _ _ _;refine UR <| Uf <| p1 K (JH rfl) fun _ K => Y5 ?_;show W _ _ _ _ _ _ _;refine VY (J := fun T st9 => Jr [(0, .ptr g 0 0), (2, .ptr c2 0 0), (3, .bool false), (4, iZ (Ul (L.drop n) : Nat))] T ∧ Mem st.h.get st.n [g] st9 [(c2, 0, [iZ 0, .str [], iZ 0, iZ 0]), (g, 0, [.str l, ks, iZ (JB bad), iN n])]) ?_ (fun T st9 hJ => ?_)
 · refine Wh ?_;refine JQ (fun mm1 T st9 => ∃ (j : Nat), mm1 = Ul (L.drop n) - j ∧ Jr [(0, .ptr g 0 0), (2, .ptr c2 0 0), (3, .bool false), (4, iN j)] T ∧ Mem st.h.get st.n [g] st9 [(c2, 0, [iZ 0, .str [], iZ 0, iZ 0]), (g, 0, [.str l, ks, iZ (JB bad), iN n])] ∧ j + Ul (L.drop (n + j)) = Ul (L.drop n)) (fun mm1 T st9 hI => ?_) _ _ _ ⟨0, rfl, (K.sub rfl), M.less (.refl _), (by rw [Nat.add_zero, Nat.zero_add])⟩;obtain ⟨j, rfl, K, M, hj⟩ := hI;refine Qc 2 K M fun _ K => ?_;obtain ⟨v9, st9, ev9, rfl, q9⟩ := FP M.fresh (h.next (M.Qn (k := 1) rfl) (h.run.mem M Q3) Qh) j Qh;refine p1 K (Qe rfl ev9) fun _ K => ?_;replace M := M.quiet q9;refine Qc 1 K M fun _ K => ?_;refine oB K (Q9 rfl) rfl fun b11 _ e11 K => ?_;cases b11
   · replace e11 := of_decide_eq_false e11;refine Qc 2 K M fun _ K => ?_;refine xl K rfl rfl (Q9 rfl) rfl fun b14 _ e14 K => ?_;cases b14
     · replace e14 := of_decide_eq_false e14;refine Qc 12 K M fun _ K => ?_;refine Jx ?_
       have hm : Ul (L.drop (n + j)) = 0 := by
              first
                | exact Du ‹_› ‹_› ‹_›
                | (exfalso; obtain rfl : j = 0 := by omega
                   exact absurd hc ‹_›)
       obtain rfl : j = Ul (L.drop n) := by omega
       exact ⟨(K.sub rfl), M.less (.refl _)⟩
     · replace e14 := of_decide_eq_true e14;refine Qc 2 K M fun _ K => ?_;obtain ⟨v17, st17, ev17, rfl, q17⟩ := FP M.fresh (h.next (M.Qn (k := 1) rfl) (h.run.mem M Q3) Qh) j Qh;refine pg K rfl rfl (Qe rfl ev17) fun _ K => ?_;replace M := M.quiet q17;refine Qc 1 K M fun _ K => ?_;refine xl K rfl rfl (Q9 rfl) rfl fun b19 _ e19 K => ?_;cases b19
       · replace e19 := of_decide_eq_false e19;refine Qc 2 K M fun _ K => ?_;obtain ⟨v22, st22, ev22, rfl, q22⟩ := BL M.fresh (h.next (M.Qn (k := 1) rfl) (h.run.mem M Q3) Qh) j Qh 39;refine pg K rfl rfl (Qe rfl ev22) fun _ K => ?_;replace M := M.quiet q22;refine Qc 3 K M fun _ K => ?_;refine JU K rfl (fun h25 => ?_) fun h25 => ?_
         · refine Qc 3 K M fun _ K => ?_;have hm := KS (L := L) (j := n + j) (by first | exact .inl ‹_› | exact .inr (.inl ‹_›) | exact .inr (.inr ‹_›));exact ⟨_, Qh, j + 1, rfl, (K.sub rfl), M.less (.refl _), (by rw [← Nat.add_assoc]; omega)⟩
         · refine Jx ?_
           have hm : Ul (L.drop (n + j)) = 0 := by
              first
                | exact Du ‹_› ‹_› ‹_›
                | (exfalso; obtain rfl : j = 0 := by omega
                   exact absurd hc ‹_›)
           obtain rfl : j = Ul (L.drop n) := by omega
           exact ⟨(K.sub rfl), M.less (.refl _)⟩
       · replace e19 := of_decide_eq_true e19;refine Qc 10 K M fun _ K => ?_;have hm := KS (L := L) (j := n + j) (by first | exact .inl ‹_› | exact .inr (.inl ‹_›) | exact .inr (.inr ‹_›));exact ⟨_, Qh, j + 1, rfl, (K.sub rfl), M.less (.refl _), (by rw [← Nat.add_assoc]; omega)⟩
   · replace e11 := of_decide_eq_true e11;refine Qc 18 K M fun _ K => ?_;have hm := KS (L := L) (j := n + j) (by first | exact .inl ‹_› | exact .inr (.inl ‹_›) | exact .inr (.inr ‹_›));exact ⟨_, Qh, j + 1, rfl, (K.sub rfl), M.less (.refl _), (by rw [← Nat.add_assoc]; omega)⟩
 · obtain ⟨K, M⟩ := hJ;refine Qc 1 K M fun _ K => ?_;refine oQ K M (Sl M.fresh (h.next (M.Qn (k := 1) rfl) (h.run.mem M Q3) Qh) Qh) rfl rfl fun _ _ K M => ?_;refine au 5 K M ?_;intro c5 _ _ K _ M;refine oQ K M (qS M.fresh (h.next (M.Qn (k := 2) rfl) (h.run.mem M Q3) Qh) ((Ul (L.drop n))) Qh) rfl rfl fun _ _ K M => ?_;refine p1 K (JH rfl) fun _ K => Y5 ?_;show W _ _ _ _ _ _ _;refine VY (J := fun T st9 => ∃ (z : Int), Jr [(0, .ptr g 0 0), (2, .ptr c2 0 0), (3, .bool false), (4, iZ (Ul (L.drop n) : Nat)), (5, .ptr c5 0 0), (6, iZ z)] T ∧ Mem st.h.get st.n [g] st9 [(c5, 0, [iZ 1, .str [], iZ 0, iZ (Q7 (Je (bytesOf l) bad) L (n) : Nat)]), (c2, 0, [iZ 0, .str [], iZ 0, iZ 0]), (g, 0, [.str l, ks, iZ (JB bad), iN n])] ∧ z = ((Q7 (Je (bytesOf l) bad) L (n + Ul (L.drop n)) : Nat) : Int)) ?_ (fun T st9 hJ => ?_)
   · refine UR ?_;refine Ja (l := [(0, 0), (1, 0), (2, 0), (3, 0), (4, 0), (5, 0), (6, 0), (7, 0), (8, 0), (9, 0), (10, 0), (11, 0), (12, 0), (13, 0), (14, 0), (15, 0), (16, 0), (17, 0), (18, 0)]) (by kernel_rfl) ?_;refine Ui 10 K M fun _ K => ?_;refine q1 rfl K (Jg YD rfl rfl (h.run.mem M Q3).len) fun _ K => q1 rfl K (N5 rfl rfl) fun _ K => ?_;refine dB rfl K (Q9 rfl) rfl rfl fun b46 _ e46 K => ?_;cases b46
     · replace e46 := of_decide_eq_false e46;refine Z1 rfl K rfl rfl rfl rfl fun _ _ K => Z1 rfl K rfl rfl rfl rfl fun _ _ K => Z1 rfl K rfl rfl rfl rfl fun _ _ K => Z1 rfl K rfl rfl rfl rfl fun _ _ K => Z1 rfl K rfl rfl rfl rfl fun _ _ K => ?_;refine Ui 1 K M fun _ K => ?_;refine Ji ?_;show W _ _ _ _ _ _ _;refine Qc 1 K M fun _ K => ?_
       exact ⟨_, (K.sub rfl), M.less (.refl _), (by first
              | (rw [Ao Qh])
              | (obtain ⟨q, rfl⟩ := Kx ‹_›; rw [YG Qh]; rfl)
              | (rw [Ky (bad := bad) ‹_›, YG Qh, YG Qh, Of]))⟩
     · replace e46 := of_decide_eq_true e46;refine Ui 6 K M fun _ K => ?_;refine Ji ?_;show W _ _ _ _ _ _ _;refine JU K rfl (fun h52 => ?_) fun h52 => ?_
       · replace h52 := of_decide_eq_true h52;refine Qc 5 K M fun _ K => ?_
         exact ⟨_, (K.sub rfl), M.less (.refl _), (by first
              | (rw [Ao Qh])
              | (obtain ⟨q, rfl⟩ := Kx ‹_›; rw [YG Qh]; rfl)
              | (rw [Ky (bad := bad) ‹_›, YG Qh, YG Qh, Of]))⟩
       · replace h52 := of_decide_eq_false h52;refine JM ?_
         exact ⟨_, (K.sub rfl), M.less (.refl _), (by first
              | (rw [Ao Qh])
              | (obtain ⟨q, rfl⟩ := Kx ‹_›; rw [YG Qh]; rfl)
              | (rw [Ky (bad := bad) ‹_›, YG Qh, YG Qh, Of]))⟩
   · obtain ⟨z, K, M, rfl⟩ := hJ;refine UR ?_;refine Ja (l := [(0, 0), (1, 0), (2, 0), (3, 0), (4, 0), (5, 0), (6, 0), (7, 0), (8, 0), (9, 0)]) (by kernel_rfl) ?_;refine Ui 7 K M fun _ K => ?_;refine q1 rfl K (TJ (a := (Q7 (Je (bytesOf l) bad) L (n))) (b := (Q7 (Je (bytesOf l) bad) L (n + Ul (L.drop n)))) Up rfl rfl rfl (h.mono n (n + Ul (L.drop n)) Qh).1 (h.mono n (n + Ul (L.drop n)) Qh).2) fun _ K => ?_;refine Ui 1 K M fun _ K => ?_;refine JL (k := 0) rfl K M rfl rfl rfl Gv rfl rfl rfl fun _ M => ?_;refine Ji ?_;show W _ _ _ _ _ _ _;refine au 12 K M ?_;intro _ _ K _ M;refine oQ K M (qM M.fresh (((l).drop (Q7 (Je (bytesOf l) bad) L (n))).take (Q7 (Je (bytesOf l) bad) L (n + Ul (L.drop n)) - Q7 (Je (bytesOf l) bad) L (n)))) rfl rfl fun _ _ K M => ?_;refine Qc 0 K M fun _ K => ?_;refine JU K rfl (fun h77 => ?_) fun h77 => ?_
     · refine au 7 K M ?_;intro _ _ K _ M;refine Jv ⟨.inr rfl, _, (U8 (JC K rfl (M.load (k := 1) rfl (QA U2 rfl))) (QF K rfl)), ?_⟩;exact ⟨(by rw [if_pos h77]), M.Us, h.next (M.Qn (k := 2) rfl) (h.run.mem M Q3) Qh⟩
     · refine au 5 K M ?_;intro _ _ K _ M;refine Jv ⟨.inr rfl, _, (U8 (JC K rfl (M.load (k := 1) rfl (QA U2 rfl))) (QF K rfl)), ?_⟩;exact ⟨(by rw [if_neg (by rw [h77]; decide)]), M.Us, h.next (M.Qn (k := 2) rfl) (h.run.mem M Q3) Qh⟩

theorem PQ(hf:Qw st){bad:Option Nat}(h:OD st.h.get g l ks L bad n)(hn:n<L.length): ∃v st',Ev Tryz.prog QR 67 [.ptr g 0 0] st v st'∧v=.tup [.agg [iZ 2,.str [],iZ (Uk 1000 0 (L.drop n):Nat),iZ (Q7 (Je (bytesOf l) bad) L (n):Nat)],.bool (decide (((Uk 1000 0 (L.drop n):Nat):Int)≤99)&& !(Il L n 48&&decide (1<((Z8 (L.drop n):Nat):Int))))]∧Ad [g] st st'∧OD st'.h.get g l ks L bad (n+Z8 (L.drop n)):=by
 have hrl:= @Wj L;have hfew:=h.few;have hle:=h.le;have hsz:=h.size;have hml:=NJ (L.drop n);have hdl:=SM (L.drop n);rw[List.length_drop]at hml hdl;refine Yu Tryz.func67 Tryz.ntmps67 fun T K=>?_;have M:=Mem.UP hf h.row;refine au 3 K M ?_;intro c2 _ _ K _ M;refine oQ K M (Sl M.fresh (h.next (M.Qn (k:=1) rfl) (h.run.mem M Q3) Qh) Qh) rfl rfl fun _ _ K M=>?_;refine au 4 K M ?_;intro c4 _ _ K _ M;refine oQ K M (BL M.fresh (h.next (M.Qn (k:=2) rfl) (h.run.mem M Q3) Qh) 0 Qh 48) rfl rfl fun _ _ K M=>?_;refine p1 K (JH rfl) fun _ K=>Y5 ?_;show W _ _ _ _ _ _ _;refine UR<|Uf<|p1 K (JH rfl) fun _ K=>Y5 ?_;show W _ _ _ _ _ _ _;refine VY (J:=fun T st9=>Jr [(0,.ptr g 0 0),(2,.ptr c2 0 0),(3,.bool false),(4,.ptr c4 0 0),(5,.bool (Il L (n+0) 48)),(6,iZ (Z8 (L.drop n):Nat))] T∧Mem st.h.get st.n [g] st9 [(c4,0,[iZ 2,.str [],iZ (Uk 1000 0 (L.drop n):Nat),iZ (Q7 (Je (bytesOf l) bad) L (n):Nat)]),(c2,0,[iZ 0,.str [],iZ 0,iZ 0]),(g,0,[.str l,ks,iZ (JB bad),iN n])]) ?_ (fun T st9 hJ=>?_)
 ·refine Wh ?_;refine JQ (fun mm1 T st9=> ∃(j a:Nat),mm1=Z8 (L.drop n)-j∧Jr [(0,.ptr g 0 0),(2,.ptr c2 0 0),(3,.bool false),(4,.ptr c4 0 0),(5,.bool (Il L (n+0) 48)),(6,iN j)] T∧Mem st.h.get st.n [g] st9 [(c4,0,[iZ 2,.str [],iN a,iZ (Q7 (Je (bytesOf l) bad) L (n):Nat)]),(c2,0,[iZ 0,.str [],iZ 0,iZ 0]),(g,0,[.str l,ks,iZ (JB bad),iN n])]∧a≤1000∧Uk 1000 a (L.drop (n+j))=Uk 1000 0 (L.drop n)∧j+Z8 (L.drop (n+j))=Z8 (L.drop n)) (fun mm1 T st9 hI=>?_) _ _ _ ⟨0,0,rfl,(K.sub rfl),M.less (.refl _),QT,rfl,(by rw[Nat.add_zero,Nat.zero_add])⟩;obtain⟨j,a,rfl,K,M,ha,hnum,hdig⟩:=hI;refine Qc 2 K M fun _ K=>?_;refine oQ K M (FP M.fresh (h.next (M.Qn (k:=2) rfl) (h.run.mem M Q3) Qh) j Qh) rfl rfl fun _ _ K M=>?_;refine Qc 1 K M fun _ K=>?_;refine JU K rfl (fun h15=>?_) fun h15=>?_
  ·replace h15:=of_decide_eq_true h15;refine Qc 0 K M fun _ K=>?_;refine Ja (l:=[(0,0),(1,0),(2,0),(3,0),(4,0),(5,0),(6,0),(7,0),(8,0),(9,0),(10,0),(11,0),(12,0),(13,0),(14,0),(15,0),(16,0),(17,0),(18,0),(19,0),(20,0),(21,0)]) (by kernel_rfl) ?_;refine Ui 2 K M fun _ K=>?_;refine q1 rfl K (za (c:=10 *((a:Nat):Int)) rfl rfl (IntWalk.i64_in _ Qh)) fun _ K=>?_;refine Ui 10 K M fun _ K=>?_
   have hn29:(n+j)<L.length:=by first|omega|exact FC Qh
   obtain⟨rc29,ra29,hr29,hd29⟩:=Z6 hn29;have hg29:=vv (c:=rc29) (by first|(rw[←ZT hr29];assumption));obtain⟨x29,m29,f29,q29,_,la29,lo29,lp29⟩:=(h.run.mem M Q3).load (i:=(n+j)) (cs:=_) (BK hr29);refine q1 rfl K (Q5 V2 (congrArg some q29) rfl (by rw[Wj];exact hn29)) fun _ K=>?_;refine Ui 1 K M fun _ K=>?_;refine q1 rfl K (QW rfl (lo29 _ 0 _ ID rfl)) fun _ K=>q1 rfl K (Sp (c:=(rc29:Int)-48) rfl rfl (IntWalk.i32_in _ Qh)) fun _ K=>q1 rfl K (VE (c:=((rc29:Int)-48)) Ey C8 rfl (IntWalk.i64_in _ Qh)) fun _ K=>?_;refine Ui 1 K M fun _ K=>?_;refine q1 rfl K (Re rfl rfl) fun _ K=>?_;refine Ui 1 K M fun _ K=>?_;refine JL (k:=0) rfl K M rfl rfl rfl BA rfl rfl rfl fun _ M=>?_;refine Ji ?_;show W _ _ _ _ _ _ _;refine Qc 3 K M fun _ K=>?_;rw[show((min (((10 *((a:Nat):Int))+((rc29:Int)-48))) 1000))=((min (a *10+(rc29-48)) 1000:Nat):Int) by omega]at M;rw[hd29,jz hg29.1]at hnum;rw[hd29,uQ hg29.1]at hdig;exact⟨_,Qh,j+1,min (a *10+(rc29-48)) 1000,rfl,(K.sub rfl),M.less (.refl _),(Nat.min_le_right _ _),hnum,(by rw[←Nat.add_assoc];omega)⟩
  ·replace h15:=of_decide_eq_false h15;refine Jx ?_;obtain⟨hs1,hs2⟩:=jy (cap:=1000) (a:=a) ‹Jb L (n+j)≠2›
   obtain rfl:a=Uk 1000 0 (L.drop n):=by omega
   obtain rfl:j=Z8 (L.drop n):=by omega
   exact⟨(K.sub rfl),M.less (.refl _)⟩
 ·obtain⟨K,M⟩:=hJ;refine au 14 K M ?_;intro _ _ K _ M;refine oB K (Q9 rfl) rfl fun b52 _ e52 K=>?_;cases b52
  ·replace e52:=of_decide_eq_false e52;refine au 9 K M ?_;intro _ _ K _ M;refine Jv ⟨.inr rfl,_,(U8 (JC K rfl (M.load (k:=1) rfl (QA U2 rfl))) (QF K rfl)),?_⟩
   exact⟨congrArg AV.tup (congrArg (fun b=>[AV.agg _,AV.bool b]) (by simp_all [Qp]<;>(intro h0;omega))),M.Us,h.next (M.Qn (k:=2) rfl) (h.run.mem M Q3) Qh⟩
  ·replace e52:=of_decide_eq_true e52;refine Qc 1 K M fun _ K=>?_;refine xl K rfl rfl (Q9 rfl) rfl fun b54 _ e54 K=>?_;cases b54
   ·refine au 7 K M ?_;intro _ _ K _ M;refine Jv ⟨.inr rfl,_,(U8 (JC K rfl (M.load (k:=1) rfl (QA U2 rfl))) (QF K rfl)),?_⟩
    exact⟨congrArg AV.tup (congrArg (fun b=>[AV.agg _,AV.bool b]) (by simp_all [Qp]<;>(intro h0;omega))),M.Us,h.next (M.Qn (k:=2) rfl) (h.run.mem M Q3) Qh⟩
   ·refine au 7 K M ?_;intro _ _ K _ M;refine Jv ⟨.inr rfl,_,(U8 (JC K rfl (M.load (k:=1) rfl (QA U2 rfl))) (QF K rfl)),?_⟩
    exact⟨congrArg AV.tup (congrArg (fun b=>[AV.agg _,AV.bool b]) (by simp_all [Qp]<;>(intro h0;omega))),M.Us,h.next (M.Qn (k:=2) rfl) (h.run.mem M Q3) Qh⟩
end
end Go.Proofs.YtaomhhkflohhgaaGreatDoor
