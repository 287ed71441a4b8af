/-
  The reader of 'sibylref2': signs, tokens.
-/
import Derived.Test.YthjgndgnmkiaiaaGreatDoorZpRrB
set_option linter.unusedVariables false
namespace Go.Proofs.YthjgndgnmkiaiaaGreatDoor
open Go Go.RowKit
section
set_option maxHeartbeats 8000000
set_option maxRecDepth 100000
variable {L:List (Nat×Nat)} {w:List Nat}

theorem xA: ∀(w:List Nat) (r:List (Nat×Nat)),Vg r w=true→w.length≤r.length:=by
 intro w
 induction w with
 |nil=>intro r _;simp
 |cons b w ih=>
  intro r h
  cases r with
  |nil=>cases h
  |cons x r=>
   obtain⟨c,a⟩:=x;rw[Vg,Bool.and_eq_true]at h;have:=ih r h.2;simp;omega
theorem FE{m:Nat}{k b:Nat}(h:w[k]? =some b):Vg (L.drop m) (w.drop k)=(H9 L m (b:Int)&&Vg (L.drop (m+1)) (w.drop (k+1))):=by
 obtain⟨h1,h2⟩:=List.getElem?_eq_some_iff.1 h;rw[List.drop_eq_getElem_cons h1,h2]
 by_cases hm:m<L.length
 ·obtain⟨c,q,h3,h4⟩:=Z4 hm;rw[h4,Vg,Eb h3]
  congr 1
  rw[Bool.eq_iff_iff,decide_eq_true_iff,decide_eq_true_iff];exact⟨fun e=>by subst e;rfl,fun e=>Int.ofNat_inj.1 e⟩
 ·rw[List.drop_eq_nil_of_le Qk,Tu Qk];rfl
theorem Lv{i:Nat}(h:Xb[i]? =some w):w.length≤3∧ ∀(k b:Nat),w[k]? =some b→b<128:=by
 have h1: ∀w∈Xb,w.length≤3∧ ∀b∈w,b<128:=by decide+kernel
 have h2:=h1 w (List.mem_of_getElem? h);exact⟨h2.1,fun k b hb=>h2.2 b (List.mem_of_getElem? hb)⟩
theorem BL{i:Nat}(h:Xb[i]? =some w):(Xb.drop i).find? (fun w=>Vg L w)=if Vg L w=true then some w else(Xb.drop (i+1)).find? fun w=>Vg L w:=by
 obtain⟨h1,h2⟩:=List.getElem?_eq_some_iff.1 h;rw[List.drop_eq_getElem_cons h1,List.find?_cons,h2]
 cases Vg L w<;>rfl
def AJ(l:List Nat)(bad:Option Nat)(L:List (Nat×Nat))(n:Nat):List AV×Bool×Nat:=match Bf (L.drop n)with
 |some w=>([.int .i64 3,.str w,.int .i64 0,.int .i64 (Qq (QT (bytesOf l) bad) L n:Nat)],true,w.length)
 |none=>([.int .i64 0,.str [],.int .i64 0,.int .i64 0],false,0)
def aF(l:List Nat)(bad:Option Nat)(L:List (Nat×Nat))(n:Nat):List AV×Bool×Nat:=
 ([.int .i64 (if VE.contains ((l.drop (Qq (QT (bytesOf l) bad) L n)).take (Qq (QT (bytesOf l) bad) L (n+Ju (L.drop n))-Qq (QT (bytesOf l) bad) L n))then 3 else 1),.str ((l.drop (Qq (QT (bytesOf l) bad) L n)).take (Qq (QT (bytesOf l) bad) L (n+Ju (L.drop n))-Qq (QT (bytesOf l) bad) L n)),.int .i64 0,.int .i64 (Qq (QT (bytesOf l) bad) L n:Nat)],
  decide (((Ju (L.drop n):Nat):Int)≤12),Ju (L.drop n))
def lx(l:List Nat)(bad:Option Nat)(L:List (Nat×Nat))(n:Nat):List AV×Bool×Nat:=
 ([.int .i64 2,.str [],.int .i64 (J9 1000 0 (L.drop n):Nat),.int .i64 (Qq (QT (bytesOf l) bad) L n:Nat)],decide (((J9 1000 0 (L.drop n):Nat):Int)≤99)&& !(H9 L n 48&&decide (1<((YM (L.drop n):Nat):Int))),YM (L.drop n))
def En(l:List Nat)(bad:Option Nat)(L:List (Nat×Nat))(n:Nat):List AV×Bool×Nat:=if QR L n=1 then aF l bad L n else if QR L n=2 then lx l bad L n else AJ l bad L n
theorem Ly(l:List Nat)(bad:Option Nat)(L:List (Nat×Nat))(n:Nat): ∃k t p,(AJ l bad L n).1=[.int .i64 k,.str t,.int .i64 0,.int .i64 p]:=by
 unfold AJ
 split<;>exact⟨_,_,_,rfl⟩

theorem yE{st:St}(hf:Q3 st){g:Nat}{l:List Nat}{ks:AV}{bad:Option Nat}{n:Nat}(h:Gw st.h.get g l ks L bad n)(hn:n<L.length): ∃v st',Ev Tryz.prog JF 87 [.ptr g 0 0] st v st'∧v=.tup [.agg (AJ l bad L n).1,.bool (AJ l bad L n).2.1]∧EJ [g] st st'∧Gw st'.h.get g l ks L bad (n+(AJ l bad L n).2.2):=by
 have hrl:= @VS L;have hfew:=h.few;have hle:=h.le;have hsz:=h.size;have hsl:(Xb.map fun w=>[AV.str w]).length=18:=rfl;refine XB Tryz.func87 Tryz.ntmps87 fun T K=>?_;have M:=Mem.UU hf h.row;refine au 5 K M ?_;intro c2 c9 _ _ K _ M;refine UE (fun mm1 T st9=> ∃(i:Nat),mm1=18-i∧Jn [(0,.ptr g 0 0),(2,.ptr c2 0 0),(4,.sl c9 0 0 18 1),(5,iN i)] T∧Mem st.h.get st.n [g] st9 [(c9,0,[.str [60,61,62],.str [61,62],.str [60,61],.str [126,61],.str [61],.str [126],.str [60],.str [38],.str [124],.str [40],.str [41],.str [123],.str [125],.str [44],.str [59],.str [58],.str [43],.str [92]]),(c2,0,[iZ 0,.str [],iZ 0,iZ 0]),(g,0,[.str l,ks,iZ (Jx bad),iN n])]∧i≤18∧Bf (L.drop n)=(Xb.drop i).find? (fun w=>Vg (L.drop n) w)) (fun mm1 T st9 hI=>?_) _ _ _ ⟨0,rfl,(K.sub rfl),M.less (.refl _),Qo,rfl⟩;obtain⟨i,rfl,K,M,hi,hs⟩:=hI;refine Qg 4 K M fun _ K=>?_;refine Zb K rfl (fun h13=>?_) fun h13=>?_
 ·replace h13:=of_decide_eq_true h13;refine Zg ?_;show W _ _ _ _ _ _ _;refine JK<|F3<|JK<|US<|p1 K (JL rfl) fun _ K=>Xr ?_;show W _ _ _ _ _ _ _;obtain⟨w,hw⟩: ∃w,Xb[i]? =some w:=⟨_,List.getElem?_eq_getElem (by show i<18;omega)⟩;have hw3:=(Lv hw).1;refine AA (J:=fun T st9=> ∃(okb:Bool),Jn [(0,.ptr g 0 0),(2,.ptr c2 0 0),(4,.sl c9 0 0 18 1),(5,iN i),(6,.bool okb)] T∧Mem st.h.get st.n [g] st9 [(c9,0,[.str [60,61,62],.str [61,62],.str [60,61],.str [126,61],.str [61],.str [126],.str [60],.str [38],.str [124],.str [40],.str [41],.str [123],.str [125],.str [44],.str [59],.str [58],.str [43],.str [92]]),(c2,0,[iZ 0,.str [],iZ 0,iZ 0]),(g,0,[.str l,ks,iZ (Jx bad),iN n])]∧Vg (L.drop n) w=okb) ?_ (fun T st9 hJ=>?_)
  ·refine Qg 1 K M fun _ K=>?_;refine UE (fun mm2 T st9=> ∃(k:Nat) (okb:Bool),mm2=w.length-k∧Jn [(0,.ptr g 0 0),(2,.ptr c2 0 0),(4,.sl c9 0 0 18 1),(5,iN i),(6,.bool okb),(7,iN k)] T∧Mem st.h.get st.n [g] st9 [(c9,0,[.str [60,61,62],.str [61,62],.str [60,61],.str [126,61],.str [61],.str [126],.str [60],.str [38],.str [124],.str [40],.str [41],.str [123],.str [125],.str [44],.str [59],.str [58],.str [43],.str [92]]),(c2,0,[iZ 0,.str [],iZ 0,iZ 0]),(g,0,[.str l,ks,iZ (Jx bad),iN n])]∧k≤w.length∧Vg (L.drop n) w=(okb&&Vg (L.drop (n+k)) (w.drop k))) (fun mm2 T st9 hI=>?_) _ _ _ ⟨0,true,rfl,(K.sub rfl),M.less (.refl _),(Nat.zero_le _),rfl⟩;obtain⟨k,okb,rfl,K,M,hk,hf2⟩:=hI;refine Qg 3 K M fun _ K=>?_;obtain⟨x19,m19,f19,q19,_,la19,lo19,lp19⟩:=(Ja.own (X:=[]) (z:=1) (ls:=Xb.map fun w=>[AV.str w]) (M.Qv (k:=0) rfl) Q1 Q1 Qo).load (i:=i) (cs:=[.str w]) (by rw[List.getElem?_map,hw];rfl);refine p1 K (Qp UZ (congrArg some q19) rfl Qk) fun _ K=>p1 K (QK rfl (lo19 _ 0 _ Qr rfl)) fun _ K=>p1 K (Ad ZQ rfl rfl) fun _ K=>?_;refine Qg 1 K M fun _ K=>?_;refine Zb K rfl (fun h22=>?_) fun h22=>?_
   ·replace h22:=of_decide_eq_true h22;refine Qg 1 K M fun _ K=>?_;refine oB K (Q7 rfl) rfl fun b26 _ e26 K=>?_;cases b26
    ·refine Qg 15 K M fun _ K=>?_;exact⟨_,Qk,k+1,false,rfl,(K.sub rfl),M.less (.refl _),Qk,(by first|(rw[hf2,FE hb34,←Bool.and_assoc];rfl)|(rw[hf2,e26];rfl)|(rw[hf2,FE hb34,e26];rfl))⟩
    ·refine Qg 4 K M fun _ K=>?_;obtain⟨x31,m31,f31,q31,_,la31,lo31,lp31⟩:=(Ja.own (X:=[]) (z:=1) (ls:=Xb.map fun w=>[AV.str w]) (M.Qv (k:=0) rfl) Q1 Q1 Qo).load (i:=i) (cs:=[.str w]) (by rw[List.getElem?_map,hw];rfl);refine pg K rfl rfl (Qp UZ (congrArg some q31) rfl Qk) fun _ K=>pg K rfl rfl (QK rfl (lo31 _ 0 _ Qr rfl)) fun _ K=>?_;refine Qg 1 K M fun _ K=>?_;obtain⟨b34,hb34⟩: ∃b,w[k]? =some b:=⟨_,List.getElem?_eq_getElem Qk⟩;have hs34:=(Lv hw).2 _ _ hb34;refine pg K rfl rfl (jw (j:=k) ZQ rfl rfl hb34) fun _ K=>pg K rfl rfl (PB (c:=(b34:Int)) DM uM rfl (IntWalk.i32_in _ Qk)) fun _ K=>?_;obtain⟨v36,st36,ev36,rfl,q36⟩:=CC M.fresh (h.next (M.Qv (k:=2) rfl) (h.run.mem M Q1) Qk) k Qk (b34:Int);refine pg K rfl rfl (Qh rfl ev36) fun _ K=>?_;replace M:=M.quiet q36;refine Qg 5 K M fun _ K=>?_;exact⟨_,Qk,k+1,(H9 L (n+k) (b34:Int)),rfl,(K.sub rfl),M.less (.refl _),Qk,(by first|(rw[hf2,FE hb34,←Bool.and_assoc];rfl)|(rw[hf2,e26];rfl)|(rw[hf2,FE hb34,e26];rfl))⟩
   ·replace h22:=of_decide_eq_false h22;refine Uz ?_
    exact⟨_,(K.sub rfl),M.less (.refl _),(by rw[hf2,show w.drop k=[]from List.drop_eq_nil_of_le Qk];cases L.drop (n+k)<;>simp[Vg])⟩
  ·obtain⟨okb,K,M,hfit⟩:=hJ;refine Qg 1 K M fun _ K=>?_;refine Zb K rfl (fun h38=>?_) fun h38=>?_
   ·refine JK ?_;refine QU (l:=[(4,0),(5,0),(0,0),(1,0),(2,0),(3,1),(6,0),(7,0),(8,0)]) (by kernel_rfl) ?_;refine q1 rfl K (Q7 rfl) fun _ K=>?_;obtain⟨v44,st44,ev44,rfl,q44⟩:=M3 M.fresh (h.next (M.Qv (k:=2) rfl) (h.run.mem M Q1) Qk) Qk;refine qA rfl K (Qh rfl ev44) fun _ K=>?_;have Mp:=M;replace M:=M.quiet q44;refine Ue 2 K M fun _ K=>?_;obtain⟨x41,m41,f41,q41,_,la41,lo41,lp41,la'41,lo'41,lp'41⟩:=Ja.Wq (Ja.own (X:=[]) (z:=1) (ls:=Xb.map fun w=>[AV.str w]) (M.Qv (k:=0) rfl) Q1 Q1 Qo) (Ja.own (X:=[]) (z:=1) (ls:=Xb.map fun w=>[AV.str w]) (Mp.Qv (k:=0) rfl) Q1 Q1 Qo) (i:=i) (cs:=[.str w]) (by rw[List.getElem?_map,hw];rfl);refine q1 rfl K (Qp UZ (congrArg some q41) rfl Qk) fun _ K=>?_;refine QO rfl K rfl (lo41 _ 0 _ Qr rfl) (lo'41 _ 0 _ Qr rfl) (Ji rfl) rfl Qo fun _ K=>?_;refine Ue 1 K M fun _ K=>?_;refine Ir rfl K M XD Qo fun c8 _ _ K M=>?_;have Mp:=M;refine Um (k:=0) rfl K M rfl rfl rfl ES rfl rfl rfl fun _ M=>?_;refine QZ ?_;show W _ _ _ _ _ _ _;refine JK ?_;refine QU (l:=[(0,0),(1,0),(2,0),(3,0),(4,0),(5,0),(6,0),(7,0),(8,0),(9,0),(10,0),(11,0),(12,0),(13,0)]) (by kernel_rfl) ?_;refine Ue 7 K M fun _ K=>?_;obtain⟨x53,m53,f53,q53,_,la53,lo53,lp53⟩:=(Ja.own (X:=[]) (z:=1) (ls:=Xb.map fun w=>[AV.str w]) (M.Qv (k:=1) rfl) Q1 Q1 Qo).load (i:=i) (cs:=[.str w]) (by rw[List.getElem?_map,hw];rfl);refine q1 rfl K (Qp UZ (congrArg some q53) rfl Qk) fun _ K=>q1 rfl K (QK rfl (lo53 _ 0 _ Qr rfl)) fun _ K=>q1 rfl K (Ad ZQ rfl rfl) fun _ K=>?_;refine Ue 3 K M fun _ K=>?_;refine Um (k:=3) rfl K M rfl rfl rfl S5 rfl rfl rfl fun _ M=>?_;refine QZ ?_;show W _ _ _ _ _ _ _;refine au 3 K M ?_;intro _ _ K _ M;refine UR ⟨.inr rfl,_,(Xo (Zh K rfl (M.load (k:=2) rfl (Jl Up rfl))) (JX K rfl)),?_⟩
    have hsg:Bf (L.drop n)=some w:=by rw[hs,BL hw,if_pos (by rw[hfit,h38])]
    have hle2:=xA w _ (by rw[hfit,h38]);rw[List.length_drop]at hle2;refine⟨by simp only[AJ,hsg],M.Z5,?_⟩;simp only[AJ,hsg];exact h.next (M.Qv (k:=3) rfl) (h.run.mem M Q1) Qk
   ·refine Qg 3 K M fun _ K=>?_;exact⟨_,Qk,i+1,rfl,(K.sub rfl),M.less (.refl _),Qk,(by rw[hs,BL hw,if_neg (by rw[hfit,h38];decide)])⟩
 ·replace h13:=of_decide_eq_false h13;refine Uz ?_;show W _ _ _ _ _ _ _;refine au 3 K M ?_;intro _ _ K _ M;refine UR ⟨.inr rfl,_,(Xo (Zh K rfl (M.load (k:=1) rfl (Jl Up rfl))) (JX K rfl)),?_⟩
  have hsg:Bf (L.drop n)=none:=by rw[hs,show Xb.drop i=[]from List.drop_eq_nil_of_le (by show 18≤i;omega)];rfl
  refine⟨by simp only[AJ,hsg],M.Z5,?_⟩;simp only[AJ,hsg];exact h.next (M.Qv (k:=2) rfl) (h.run.mem M Q1) Qk

theorem qZ{st:St}(hf:Q3 st){g:Nat}{l:List Nat}{ks:AV}{bad:Option Nat}{n:Nat}(h:Gw st.h.get g l ks L bad n)(hn:n<L.length): ∃v st',Ev Tryz.prog JF 52 [.ptr g 0 0] st v st'∧v=.tup [.agg (En l bad L n).1,.bool (En l bad L n).2.1]∧EJ [g] st st'∧Gw st'.h.get g l ks L bad (n+(En l bad L n).2.2):=by
 have hrl:= @VS L;have hfew:=h.few;have hle:=h.le;have hsz:=h.size;refine XB Tryz.func52 Tryz.ntmps52 fun T K=>?_;have M:=Mem.UU hf h.row;refine au 3 K M ?_;intro c2 _ _ K _ M;refine oQ K M (M1 M.fresh (h.next (M.Qv (k:=1) rfl) (h.run.mem M Q1) Qk)) rfl rfl fun _ _ K M=>?_;refine Qg 2 K M fun _ K=>?_;refine Zb K rfl (fun h6=>?_) fun h6=>?_
 ·replace h6:=of_decide_eq_true h6;refine Qg 1 K M fun _ K=>?_;obtain⟨v9,st9,ev9,rfl,q9,r9⟩:=yI M.fresh (h.next (M.Qv (k:=1) rfl) (h.run.mem M Q1) Qk) Qk ‹_›;refine p1 K (Qh rfl ev9) fun _ K=>?_;replace M:=M.Yl (k:=1) rfl q9 r9.row;refine au 4 K M ?_;intro _ _ K _ M;refine UR ⟨.inr rfl,_,(Xo (Zh K rfl (M.load (k:=0) rfl (Jl Up rfl))) (JX K rfl)),?_⟩;exact⟨(by rw[En,if_pos ‹QR L n=1›];rfl),M.Z5,(by rw[En,if_pos ‹QR L n=1›];exact h.next (M.Qv (k:=1) rfl) (h.run.mem M Q1) r9.le)⟩
 ·replace h6:=of_decide_eq_false h6;refine Qg 2 K M fun _ K=>?_;refine Zb K rfl (fun h12=>?_) fun h12=>?_
  ·replace h12:=of_decide_eq_true h12;refine Qg 1 K M fun _ K=>?_;obtain⟨v15,st15,ev15,rfl,q15,r15⟩:=SF M.fresh (h.next (M.Qv (k:=1) rfl) (h.run.mem M Q1) Qk) Qk;refine p1 K (Qh rfl ev15) fun _ K=>?_;replace M:=M.Yl (k:=1) rfl q15 r15.row;refine au 4 K M ?_;intro _ _ K _ M;refine UR ⟨.inr rfl,_,(Xo (Zh K rfl (M.load (k:=0) rfl (Jl Up rfl))) (JX K rfl)),?_⟩;exact⟨(by rw[En,if_neg ‹¬QR L n=1›,if_pos ‹QR L n=2›];rfl),M.Z5,(by rw[En,if_neg ‹¬QR L n=1›,if_pos ‹QR L n=2›];exact h.next (M.Qv (k:=1) rfl) (h.run.mem M Q1) r15.le)⟩
  ·replace h12:=of_decide_eq_false h12;refine Qg 1 K M fun _ K=>?_;obtain⟨sk,stx,sp,hsc⟩:=Ly l bad L n;obtain⟨v19,st19,ev19,rfl,q19,r19⟩:=hsc▸yE M.fresh (h.next (M.Qv (k:=1) rfl) (h.run.mem M Q1) Qk) Qk;refine p1 K (Qh rfl ev19) fun _ K=>?_;replace M:=M.Yl (k:=1) rfl q19 r19.row;refine au 4 K M ?_;intro _ _ K _ M;refine UR ⟨.inr rfl,_,(Xo (Zh K rfl (M.load (k:=0) rfl (Jl Up rfl))) (JX K rfl)),?_⟩;exact⟨(by rw[En,if_neg ‹¬QR L n=1›,if_neg ‹¬QR L n=2›,hsc]),M.Z5,(by rw[En,if_neg ‹¬QR L n=1›,if_neg ‹¬QR L n=2›];exact h.next (M.Qv (k:=1) rfl) (h.run.mem M Q1) r19.le)⟩
end
section
variable {l:List Nat}

set_option maxRecDepth 100000 in
set_option maxHeartbeats 4000000 in
theorem ve(n m b0 b1 b2 b3 c1 c2 c3:Nat)(hmn:m≤n)(hw:(Lib.decodeN n b0 b1 b2 b3).2≤m)(h1:1<m→c1=b1)(h2:2<m→c2=b2)(h3:3<m→c3=b3):Lib.decodeN m b0 c1 c2 c3=Lib.decodeN n b0 b1 b2 b3:=by
 unfold Lib.decodeN at hw ⊢
 by_cases a0:b0<128
 ·rw[if_pos a0,if_pos a0]
 rw[if_neg a0]at hw;rw[if_neg a0,if_neg a0]
 by_cases a1:b0/32=6∧(1<n∧b1/64=2)
 ·rw[if_pos a1]at hw;rw[if_pos a1]
  by_cases hm:1<m
  ·rw[h1 hm,if_pos ⟨a1.1,hm,a1.2.2⟩]
  ·rw[if_neg (fun h=>hm h.2.1),if_neg Qk,if_neg Qk]
   split at hw
   ·exfalso;simp only at hw;omega
   ·rename_i h;rw[if_neg h]
 rw[if_neg a1]at hw;rw[if_neg a1]
 by_cases a2:b0/16=14∧(1<n∧b1/64=2)∧(2<n∧b2/64=2)
 ·rw[if_pos a2]at hw;rw[if_pos a2,if_neg Qk]
  by_cases hm:2<m
  ·rw[h1 Qk,h2 hm,if_pos ⟨a2.1,⟨by omega,a2.2.1.2⟩,hm,a2.2.2.2⟩]
  ·rw[if_neg (fun h=>hm h.2.2.1),if_neg Qk]
   split at hw
   ·exfalso;simp only at hw;omega
   ·rename_i h;rw[if_neg h]
 rw[if_neg a2]at hw;rw[if_neg a2]
 by_cases a3:b0/8=30∧(1<n∧b1/64=2)∧(2<n∧b2/64=2)∧(3<n∧b3/64=2)
 ·rw[if_pos a3]at hw;rw[if_pos a3,if_neg Qk,if_neg Qk]
  by_cases hm:3<m
  ·rw[h1 Qk,h2 Qk,h3 hm,if_pos ⟨a3.1,⟨by omega,a3.2.1.2⟩,⟨by omega,a3.2.2.1.2⟩,hm,a3.2.2.2.2⟩]
  ·rw[if_neg (fun h=>hm h.2.2.2.1)]
   split at hw
   ·exfalso;simp only at hw;omega
   ·rename_i h;rw[if_neg h]
 rw[if_neg a3];rw[if_neg,if_neg,if_neg]
 ·intro h;exact a3 ⟨h.1,⟨by omega,by rw[←h1 h.2.1.1];exact h.2.1.2⟩,⟨by omega,by rw[←h2 h.2.2.1.1];exact h.2.2.1.2⟩,by omega,by rw[←h3 h.2.2.2.1];exact h.2.2.2.2⟩
 ·intro h;exact a2 ⟨h.1,⟨by omega,by rw[←h1 h.2.1.1];exact h.2.1.2⟩,by omega,by rw[←h2 h.2.2.1];exact h.2.2.2⟩
 ·intro h;exact a1 ⟨h.1,by omega,by rw[←h1 h.2.1];exact h.2.2⟩
theorem Nu(s:ByteArray)(a b k:Nat)(h:a+k<b)(hb:b≤s.size):(s.extract a b).get! k=s.get! (a+k):=by
 have hz:(s.extract a b).size=b-a:=by simp;omega
 rw[get_eq _ _ Qk,get_eq _ _ Qk];simp[ByteArray.data_extract]
theorem TC(s:ByteArray)(a b p:Nat)(h1:a≤p)(h2:p<b)(h3:b≤s.size)(hw:p+(Utf8.decode s p).2≤b):Utf8.decode (s.extract a b) (p-a)=Utf8.decode s p:=by
 have hz:(s.extract a b).size=b-a:=by simp;omega
 have hw':=hw;rw[Lib.decode_at]at hw' ⊢;rw[Lib.decode_at s p,hz]
 have e0:(s.extract a b).get! (p-a)=s.get! p:=by rw[Nu s a b _ Qk h3];congr 1;omega
 rw[e0];refine ve _ _ _ _ _ _ _ _ _ Qk Qk (fun h=>?_) (fun h=>?_) (fun h=>?_)
 ·rw[Nu s a b _ Qk h3];congr 2;omega
 ·rw[Nu s a b _ Qk h3];congr 2;omega
 ·rw[Nu s a b _ Qk h3];congr 2;omega
theorem ue(s:ByteArray)(fin a b:Nat)(hb:b≤s.size): ∀(R:List (Nat×Nat)) (p m f:Nat),Ho s fin p R→m≤R.length→a≤p→Qq fin R m=b→m≤f→Xp (s.extract a b) f (p-a)=m:=by
 have hz:(s.extract a b).size=b-a:=by simp;omega
 intro R
 induction R with
 |nil=>
  intro p m f hc hm hap hpb hf
  obtain rfl:m=0:=by simpa using hm
  have hp:p=fin:=hc;have hpb:fin=b:=hpb;rw[Fm _ _ _ Qk]
 |cons x R ih=>
  intro p m f hc hm hap hpb hf;obtain⟨c,q⟩:=x
  cases m with
  |zero=>
   have hpb:q=b:=hpb;have:=hc.1;rw[Fm _ _ _ Qk]
  |succ m=>
   obtain⟨hq,hlt,_,_,hc'⟩:=hc
   have hpb':Qq fin R m=b:=by rw[←hpb];simp[Qq]
   have hm':m≤R.length:=by simpa using hm
   have hpl:=(Ob s fin _ R hc' 0 m (Nat.zero_le _)).1;rw[VT s fin _ R hc',hpb']at hpl;have hw:=Zx s p hlt;obtain⟨f,rfl⟩: ∃f',f=f'+1:=⟨f-1,by omega⟩;rw[Kp _ _ _ Qk,TC s a b p hap Qk hb hpl];have:=ih (p+(Utf8.decode s p).2) m f hc' hm' Qk hpb' Qk;rw[show p-a+(Utf8.decode s p).2=p+(Utf8.decode s p).2-a by omega,this]
theorem TF(s:ByteArray)(n m:Nat)(h:n+m≤(each s).1.length):count (s.extract (Jo s (each s).2 (each s).1 n) (Jo s (each s).2 (each s).1 (n+m)))=m:=by
 have hc:=Ia s;have hd:=W2 s _ n _ 0 hc.1;have h1:=Zj s n (n+m) Qk
 have hz:(s.extract (Jo s (each s).2 (each s).1 n) (Jo s (each s).2 (each s).1 (n+m))).size=Jo s (each s).2 (each s).1 (n+m)-Jo s (each s).2 (each s).1 n:=by simp;omega
 have hge:m≤Jo s (each s).2 (each s).1 (n+m)-Jo s (each s).2 (each s).1 n:=by
  clear hz h1
  induction m with
  |zero=>omega
  |succ m ih=>
   have:=ih Qk;have hm:=Zj s n (n+m) Qk
   have hlt:Jo s (each s).2 (each s).1 (n+m)<Jo s (each s).2 (each s).1 (n+(m+1)):=by
    have hdd:=W2 s _ (n+m) _ 0 hc.1
    have hl:n+m<(each s).1.length:=by omega
    rw[XS _ _ hl]at hdd;obtain⟨_,hlt,_,_,hc'⟩:=hdd;have e1:=VT s _ _ _ hc';rw[Zi,Nat.add_zero]at e1;have hw:=Zx s _ hlt;show Qq _ _ (n+m)<Qq _ _ (n+m+1);omega
   omega
 unfold count;rw[hz];have:=ue s (QT s (each s).2) (Jo s (each s).2 (each s).1 n) (Jo s (each s).2 (each s).1 (n+m)) h1.2 ((each s).1.drop n) _ m (Jo s (each s).2 (each s).1 (n+m)-Jo s (each s).2 (each s).1 n) hd (by rw[List.length_drop];omega) (Nat.le_refl _) (Zi _ _ _ _) hge;rw[show Qq (QT s (each s).2) (each s).1 n-Jo s (each s).2 (each s).1 n=0 from Nat.sub_self _]at this;exact this
theorem wT: ∀(r:List (Nat×Nat)) (a:Nat),J9 100 (min a 100) r=min (J9 1000 a r) 100:=by
 intro r
 induction r with
 |nil=>intro a;rfl
 |cons x r ih=>
  intro a;obtain⟨c,q⟩:=x;rw[J9,J9]
  split
  ·rw[←ih]
   congr 1
   omega
  ·rfl
theorem SA: ∀sg∈ZB,∀b r,sg.data.toList=b::r→Q0 (b.toNat:Int)=4:=by
 have h: ∀sg∈ZB,(match sg.data.toList with|b::r=>decide (Q0 (b.toNat:Int)=4)|[]=>true)=true:=by decide+kernel
 intro sg hs b r e;have:=h sg hs;rw[e]at this;exact of_decide_eq_true this
theorem qV{c a:Nat}{r:List (Nat×Nat)}(h:Q0 (c:Int)≠4):VH ((c,a)::r)=none:=by
 unfold VH;rw[List.find?_eq_none];intro sg hs hf;have hz:=(Ht sg hs).1
 cases he:sg.data.toList with
 |nil=>
  have:sg.size=0:=by rw[←ByteArray.size_data,←Array.length_toList,he];rfl
  omega
 |cons b l=>
  rw[he,Zq,Bool.and_eq_true,decide_eq_true_iff]at hf;exact h (by rw[hf.1];exact SA sg hs b l he)

theorem Bytes.sub{r:List Nat}(h:Bytes l)(hs: ∀x∈r,x∈l):Bytes r:=fun x hx=>h x (hs x hx)
theorem GX(h:Bytes l)(a b:Nat):Ym ((bytesOf l).extract a b)=(l.drop a).take (b-a):=by
 rw[Ay,UT (h.sub fun x hx=>List.mem_of_mem_drop (List.mem_of_mem_take hx))]
theorem uW(hB:Bytes l){n:Nat}(hn:n<(each (bytesOf l)).1.length):
  (En l (each (bytesOf l)).2 (each (bytesOf l)).1 n).2.1=(Zn (bytesOf l) (QT (bytesOf l) (each (bytesOf l)).2) ((each (bytesOf l)).1.drop n)).ok∧
  ((Zn (bytesOf l) (QT (bytesOf l) (each (bytesOf l)).2) ((each (bytesOf l)).1.drop n)).ok=true→(En l (each (bytesOf l)).2 (each (bytesOf l)).1 n).1=(Zn (bytesOf l) (QT (bytesOf l) (each (bytesOf l)).2) ((each (bytesOf l)).1.drop n)).cells∧
   (En l (each (bytesOf l)).2 (each (bytesOf l)).1 n).2.2=(Zn (bytesOf l) (QT (bytesOf l) (each (bytesOf l)).2) ((each (bytesOf l)).1.drop n)).len):=by
 obtain⟨c,q,h1,h2⟩:=Z4 hn;have hcl:QR (each (bytesOf l)).1 n=Q0 (c:Int):=ZN h1;have hml:=IN ((each (bytesOf l)).1.drop n);rw[List.length_drop]at hml;have hcn:=TF (bytesOf l) n (Ju ((each (bytesOf l)).1.drop n)) Qk
 have hp0:Qq (QT (bytesOf l) (each (bytesOf l)).2) ((each (bytesOf l)).1.drop n) 0=Qq (QT (bytesOf l) (each (bytesOf l)).2) (each (bytesOf l)).1 n:=by rw[Zi,Nat.add_zero]
 have hpm: ∀m,Qq (QT (bytesOf l) (each (bytesOf l)).2) ((each (bytesOf l)).1.drop n) m=Qq (QT (bytesOf l) (each (bytesOf l)).2) (each (bytesOf l)).1 (n+m):=fun m=>Zi _ _ _ _;have hcn':count ((bytesOf l).extract (Qq (QT (bytesOf l) (each (bytesOf l)).2) (each (bytesOf l)).1 n) (Qq (QT (bytesOf l) (each (bytesOf l)).2) (each (bytesOf l)).1 (n+Ju ((each (bytesOf l)).1.drop n))))=Ju ((each (bytesOf l)).1.drop n):=hcn;have hisC:H9 (each (bytesOf l)).1 n 48=decide ((c:Int)=48):=Eb h1;rw[Mf _ _ _ _ hn]
 have hgn:(each (bytesOf l)).1[n]=(c,q):=by
  obtain⟨_,h⟩:=List.getElem?_eq_some_iff.1 h1;exact h
 rw[hgn];simp only;unfold En aF lx AJ;rw[hcl];have hc0:=wT ((each (bytesOf l)).1.drop n) 0;rw[show min 0 100=0 from rfl]at hc0;have hsg:=yy ((each (bytesOf l)).1.drop n)
 generalize (each (bytesOf l)).1.drop n=r at *
 by_cases k1:Q0 (c:Int)=1
 ·rw[if_pos k1,if_pos k1];unfold IM;rw[hp0,hpm,hcn',qy,GX hB];refine⟨?_,fun _=>⟨?_,rfl⟩⟩
  ·simp only;rw[Bool.eq_iff_iff,decide_eq_true_iff,decide_eq_true_iff];omega
  ·unfold Uy.cells;simp only[GX hB];rfl
 ·rw[if_neg k1,if_neg k1]
  by_cases k2:Q0 (c:Int)=2
  ·rw[if_pos k2,if_pos k2];unfold CP;rw[hp0,hc0,hisC];refine⟨?_,fun hok=>⟨?_,rfl⟩⟩
   ·simp only
    have e1:decide (((J9 1000 0 r:Nat):Int)≤99)=decide (min (J9 1000 0 r) 100≤99):=by
     rw[Bool.eq_iff_iff,decide_eq_true_iff,decide_eq_true_iff];omega
    have hd1:1≤YM r:=by rw[h2,YM,if_pos (YD.1 k2)];omega
    have e2:(!(decide ((c:Int)=48)&&decide (1<((YM r:Nat):Int))))=(decide (c≠48)||decide (YM r=1)):=by
     rw[Bool.eq_iff_iff];simp only[Bool.not_eq_true',Bool.and_eq_false_iff,decide_eq_false_iff_not,Bool.or_eq_true,decide_eq_true_iff];omega
    rw[e1,e2]
   ·have hok:(decide (min (J9 1000 0 r) 100≤99)&&_)=true:=hok;rw[Bool.and_eq_true,decide_eq_true_iff]at hok;unfold Uy.cells
    have e3:min (J9 1000 0 r) 100=J9 1000 0 r:=by omega
    simp only[e3];rfl
  ·rw[if_neg k2,if_neg k2];rw[hsg]
   by_cases k4:Q0 (c:Int)=4
   ·rw[if_pos k4];unfold Ha
    cases hs:VH r with
    |none=>exact⟨rfl,fun h=>by cases h⟩
    |some sg=>
     refine⟨rfl,fun _=>⟨?_,?_⟩⟩
     ·unfold Uy.cells;simp only[Option.map_some,hp0];rfl
     ·simp only[Option.map_some];unfold Ym;rw[List.length_map,Array.length_toList,ByteArray.size_data]
   ·rw[if_neg k4,h2,qV k4];exact⟨rfl,fun h=>by cases h⟩
end
end Go.Proofs.YthjgndgnmkiaiaaGreatDoor
