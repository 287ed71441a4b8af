/-
  The reader of 'sibylref2': signs, tokens.
-/
import Derived.Test.YtaomhhkflohhgaaGreatDoorMgRrB
set_option linter.unusedVariables false
namespace Go.Proofs.YtaomhhkflohhgaaGreatDoor
open Go Go.RowKit
section
set_option maxHeartbeats 8000000
set_option maxRecDepth 100000
variable {L:List (Nat×Nat)} {w:List Nat}

theorem uw: ∀(w:List Nat) (r:List (Nat×Nat)),Vo r w=true→w.length≤r.length:=by
 intro w
 induction w with
 |nil=>intro r _;simp
 |cons b w ih=>
  intro r h
  cases r with
  |nil=>cases h
  |cons x r=>
   obtain⟨c,a⟩:=x;rw[Vo,Bool.and_eq_true]at h;have:=ih r h.2;simp;omega
theorem FY{m:Nat}{k b:Nat}(h:w[k]? =some b):Vo (L.drop m) (w.drop k)=(Il L m (b:Int)&&Vo (L.drop (m+1)) (w.drop (k+1))):=by
 obtain⟨h1,h2⟩:=List.getElem?_eq_some_iff.1 h;rw[List.drop_eq_getElem_cons h1,h2]
 by_cases hm:m<L.length
 ·obtain⟨c,q,h3,h4⟩:=Z6 hm;rw[h4,Vo,E6 h3]
  congr 1
  rw[Bool.eq_iff_iff,decide_eq_true_iff,decide_eq_true_iff];exact⟨fun e=>by subst e;rfl,fun e=>Int.ofNat_inj.1 e⟩
 ·rw[List.drop_eq_nil_of_le Qh,Rs Qh];rfl
theorem Lo{i:Nat}(h:Xl[i]? =some w):w.length≤3∧ ∀(k b:Nat),w[k]? =some b→b<128:=by
 have h1: ∀w∈Xl,w.length≤3∧ ∀b∈w,b<128:=by decide+kernel
 have h2:=h1 w (List.mem_of_getElem? h);exact⟨h2.1,fun k b hb=>h2.2 b (List.mem_of_getElem? hb)⟩
theorem GW{i:Nat}(h:Xl[i]? =some w):(Xl.drop i).find? (fun w=>Vo L w)=if Vo L w=true then some w else(Xl.drop (i+1)).find? fun w=>Vo L w:=by
 obtain⟨h1,h2⟩:=List.getElem?_eq_some_iff.1 h;rw[List.drop_eq_getElem_cons h1,List.find?_cons,h2]
 cases Vo L w<;>rfl
def Fo(l:List Nat)(bad:Option Nat)(L:List (Nat×Nat))(n:Nat):List AV×Bool×Nat:=match G2 (L.drop n)with
 |some w=>([.int .i64 3,.str w,.int .i64 0,.int .i64 (Q7 (Je (bytesOf l) bad) L n:Nat)],true,w.length)
 |none=>([.int .i64 0,.str [],.int .i64 0,.int .i64 0],false,0)
def xh(l:List Nat)(bad:Option Nat)(L:List (Nat×Nat))(n:Nat):List AV×Bool×Nat:=
 ([.int .i64 (if VO.contains ((l.drop (Q7 (Je (bytesOf l) bad) L n)).take (Q7 (Je (bytesOf l) bad) L (n+Ul (L.drop n))-Q7 (Je (bytesOf l) bad) L n))then 3 else 1),.str ((l.drop (Q7 (Je (bytesOf l) bad) L n)).take (Q7 (Je (bytesOf l) bad) L (n+Ul (L.drop n))-Q7 (Je (bytesOf l) bad) L n)),.int .i64 0,.int .i64 (Q7 (Je (bytesOf l) bad) L n:Nat)],
  decide (((Ul (L.drop n):Nat):Int)≤12),Ul (L.drop n))
def vW(l:List Nat)(bad:Option Nat)(L:List (Nat×Nat))(n:Nat):List AV×Bool×Nat:=
 ([.int .i64 2,.str [],.int .i64 (Uk 1000 0 (L.drop n):Nat),.int .i64 (Q7 (Je (bytesOf l) bad) L n:Nat)],decide (((Uk 1000 0 (L.drop n):Nat):Int)≤99)&& !(Il L n 48&&decide (1<((Z8 (L.drop n):Nat):Int))),Z8 (L.drop n))
def EJ(l:List Nat)(bad:Option Nat)(L:List (Nat×Nat))(n:Nat):List AV×Bool×Nat:=if Jb L n=1 then xh l bad L n else if Jb L n=2 then vW l bad L n else Fo l bad L n
theorem Lq(l:List Nat)(bad:Option Nat)(L:List (Nat×Nat))(n:Nat): ∃k t p,(Fo l bad L n).1=[.int .i64 k,.str t,.int .i64 0,.int .i64 p]:=by
 unfold Fo
 split<;>exact⟨_,_,_,rfl⟩

theorem qO{st:St}(hf:Qw st){g:Nat}{l:List Nat}{ks:AV}{bad:Option Nat}{n:Nat}(h:OD st.h.get g l ks L bad n)(hn:n<L.length): ∃v st',Ev Tryz.prog QR 68 [.ptr g 0 0] st v st'∧v=.tup [.agg (Fo l bad L n).1,.bool (Fo l bad L n).2.1]∧Ad [g] st st'∧OD st'.h.get g l ks L bad (n+(Fo l bad L n).2.2):=by
 have hrl:= @Wj L;have hfew:=h.few;have hle:=h.le;have hsz:=h.size;have hsl:(Xl.map fun w=>[AV.str w]).length=18:=rfl;refine Yu Tryz.func68 Tryz.ntmps68 fun T K=>?_;have M:=Mem.UP hf h.row;refine au 5 K M ?_;intro c2 c9 _ _ K _ M;refine JQ (fun mm1 T st9=> ∃(i:Nat),mm1=18-i∧Jr [(0,.ptr g 0 0),(2,.ptr c2 0 0),(4,.sl c9 0 0 18 1),(5,iN i)] T∧Mem st.h.get st.n [g] st9 [(c9,0,[.str [60,61,62],.str [61,62],.str [60,61],.str [126,61],.str [61],.str [126],.str [60],.str [38],.str [124],.str [40],.str [41],.str [123],.str [125],.str [44],.str [59],.str [58],.str [43],.str [92]]),(c2,0,[iZ 0,.str [],iZ 0,iZ 0]),(g,0,[.str l,ks,iZ (JB bad),iN n])]∧i≤18∧G2 (L.drop n)=(Xl.drop i).find? (fun w=>Vo (L.drop n) w)) (fun mm1 T st9 hI=>?_) _ _ _ ⟨0,rfl,(K.sub rfl),M.less (.refl _),QT,rfl⟩;obtain⟨i,rfl,K,M,hi,hs⟩:=hI;refine Qc 4 K M fun _ K=>?_;refine JU K rfl (fun h13=>?_) fun h13=>?_
 ·replace h13:=of_decide_eq_true h13;refine JM ?_;show W _ _ _ _ _ _ _;refine UR<|Wh<|UR<|Uf<|p1 K (JH rfl) fun _ K=>Y5 ?_;show W _ _ _ _ _ _ _;obtain⟨w,hw⟩: ∃w,Xl[i]? =some w:=⟨_,List.getElem?_eq_getElem (by show i<18;omega)⟩;have hw3:=(Lo hw).1;refine VY (J:=fun T st9=> ∃(okb:Bool),Jr [(0,.ptr g 0 0),(2,.ptr c2 0 0),(4,.sl c9 0 0 18 1),(5,iN i),(6,.bool okb)] T∧Mem st.h.get st.n [g] st9 [(c9,0,[.str [60,61,62],.str [61,62],.str [60,61],.str [126,61],.str [61],.str [126],.str [60],.str [38],.str [124],.str [40],.str [41],.str [123],.str [125],.str [44],.str [59],.str [58],.str [43],.str [92]]),(c2,0,[iZ 0,.str [],iZ 0,iZ 0]),(g,0,[.str l,ks,iZ (JB bad),iN n])]∧Vo (L.drop n) w=okb) ?_ (fun T st9 hJ=>?_)
  ·refine Qc 1 K M fun _ K=>?_;refine JQ (fun mm2 T st9=> ∃(k:Nat) (okb:Bool),mm2=w.length-k∧Jr [(0,.ptr g 0 0),(2,.ptr c2 0 0),(4,.sl c9 0 0 18 1),(5,iN i),(6,.bool okb),(7,iN k)] T∧Mem st.h.get st.n [g] st9 [(c9,0,[.str [60,61,62],.str [61,62],.str [60,61],.str [126,61],.str [61],.str [126],.str [60],.str [38],.str [124],.str [40],.str [41],.str [123],.str [125],.str [44],.str [59],.str [58],.str [43],.str [92]]),(c2,0,[iZ 0,.str [],iZ 0,iZ 0]),(g,0,[.str l,ks,iZ (JB bad),iN n])]∧k≤w.length∧Vo (L.drop n) w=(okb&&Vo (L.drop (n+k)) (w.drop k))) (fun mm2 T st9 hI=>?_) _ _ _ ⟨0,true,rfl,(K.sub rfl),M.less (.refl _),(Nat.zero_le _),rfl⟩;obtain⟨k,okb,rfl,K,M,hk,hf2⟩:=hI;refine Qc 3 K M fun _ K=>?_;obtain⟨x19,m19,f19,q19,_,la19,lo19,lp19⟩:=(QS.own (X:=[]) (z:=1) (ls:=Xl.map fun w=>[AV.str w]) (M.Qn (k:=0) rfl) Q3 Q3 QT).load (i:=i) (cs:=[.str w]) (by rw[List.getElem?_map,hw];rfl);refine p1 K (Q5 Jz (congrArg some q19) rfl Qh) fun _ K=>p1 K (QW rfl (lo19 _ 0 _ J0 rfl)) fun _ K=>p1 K (Vz Up rfl rfl) fun _ K=>?_;refine Qc 1 K M fun _ K=>?_;refine JU K rfl (fun h22=>?_) fun h22=>?_
   ·replace h22:=of_decide_eq_true h22;refine Qc 1 K M fun _ K=>?_;refine oB K (Q9 rfl) rfl fun b26 _ e26 K=>?_;cases b26
    ·refine Qc 15 K M fun _ K=>?_;exact⟨_,Qh,k+1,false,rfl,(K.sub rfl),M.less (.refl _),Qh,(by first|(rw[hf2,FY hb34,←Bool.and_assoc];rfl)|(rw[hf2,e26];rfl)|(rw[hf2,FY hb34,e26];rfl))⟩
    ·refine Qc 4 K M fun _ K=>?_;obtain⟨x31,m31,f31,q31,_,la31,lo31,lp31⟩:=(QS.own (X:=[]) (z:=1) (ls:=Xl.map fun w=>[AV.str w]) (M.Qn (k:=0) rfl) Q3 Q3 QT).load (i:=i) (cs:=[.str w]) (by rw[List.getElem?_map,hw];rfl);refine pg K rfl rfl (Q5 Jz (congrArg some q31) rfl Qh) fun _ K=>pg K rfl rfl (QW rfl (lo31 _ 0 _ J0 rfl)) fun _ K=>?_;refine Qc 1 K M fun _ K=>?_;obtain⟨b34,hb34⟩: ∃b,w[k]? =some b:=⟨_,List.getElem?_eq_getElem Qh⟩;have hs34:=(Lo hw).2 _ _ hb34;refine pg K rfl rfl (TM (j:=k) Up rfl rfl hb34) fun _ K=>pg K rfl rfl (VE (c:=(b34:Int)) C8 YO rfl (IntWalk.i32_in _ Qh)) fun _ K=>?_;obtain⟨v36,st36,ev36,rfl,q36⟩:=BL M.fresh (h.next (M.Qn (k:=2) rfl) (h.run.mem M Q3) Qh) k Qh (b34:Int);refine pg K rfl rfl (Qe rfl ev36) fun _ K=>?_;replace M:=M.quiet q36;refine Qc 5 K M fun _ K=>?_;exact⟨_,Qh,k+1,(Il L (n+k) (b34:Int)),rfl,(K.sub rfl),M.less (.refl _),Qh,(by first|(rw[hf2,FY hb34,←Bool.and_assoc];rfl)|(rw[hf2,e26];rfl)|(rw[hf2,FY hb34,e26];rfl))⟩
   ·replace h22:=of_decide_eq_false h22;refine Jx ?_
    exact⟨_,(K.sub rfl),M.less (.refl _),(by rw[hf2,show w.drop k=[]from List.drop_eq_nil_of_le Qh];cases L.drop (n+k)<;>simp[Vo])⟩
  ·obtain⟨okb,K,M,hfit⟩:=hJ;refine Qc 1 K M fun _ K=>?_;refine JU K rfl (fun h38=>?_) fun h38=>?_
   ·refine UR ?_;refine Ja (l:=[(4,0),(5,0),(0,0),(1,0),(2,0),(3,1),(6,0),(7,0),(8,0)]) (by kernel_rfl) ?_;refine q1 rfl K (Q9 rfl) fun _ K=>?_;obtain⟨v44,st44,ev44,rfl,q44⟩:=Sl M.fresh (h.next (M.Qn (k:=2) rfl) (h.run.mem M Q3) Qh) Qh;refine qA rfl K (Qe rfl ev44) fun _ K=>?_;have Mp:=M;replace M:=M.quiet q44;refine Ui 2 K M fun _ K=>?_;obtain⟨x41,m41,f41,q41,_,la41,lo41,lp41,la'41,lo'41,lp'41⟩:=QS.wB (QS.own (X:=[]) (z:=1) (ls:=Xl.map fun w=>[AV.str w]) (M.Qn (k:=0) rfl) Q3 Q3 QT) (QS.own (X:=[]) (z:=1) (ls:=Xl.map fun w=>[AV.str w]) (Mp.Qn (k:=0) rfl) Q3 Q3 QT) (i:=i) (cs:=[.str w]) (by rw[List.getElem?_map,hw];rfl);refine q1 rfl K (Q5 Jz (congrArg some q41) rfl Qh) fun _ K=>?_;refine QL rfl K rfl (lo41 _ 0 _ J0 rfl) (lo'41 _ 0 _ J0 rfl) (J2 rfl) rfl QT fun _ K=>?_;refine Ui 1 K M fun _ K=>?_;refine Nc rfl K M XS QT fun c8 _ _ K M=>?_;have Mp:=M;refine JL (k:=0) rfl K M rfl rfl rfl Ai rfl rfl rfl fun _ M=>?_;refine Ji ?_;show W _ _ _ _ _ _ _;refine UR ?_;refine Ja (l:=[(0,0),(1,0),(2,0),(3,0),(4,0),(5,0),(6,0),(7,0),(8,0),(9,0),(10,0),(11,0),(12,0),(13,0)]) (by kernel_rfl) ?_;refine Ui 7 K M fun _ K=>?_;obtain⟨x53,m53,f53,q53,_,la53,lo53,lp53⟩:=(QS.own (X:=[]) (z:=1) (ls:=Xl.map fun w=>[AV.str w]) (M.Qn (k:=1) rfl) Q3 Q3 QT).load (i:=i) (cs:=[.str w]) (by rw[List.getElem?_map,hw];rfl);refine q1 rfl K (Q5 Jz (congrArg some q53) rfl Qh) fun _ K=>q1 rfl K (QW rfl (lo53 _ 0 _ J0 rfl)) fun _ K=>q1 rfl K (Vz Up rfl rfl) fun _ K=>?_;refine Ui 3 K M fun _ K=>?_;refine JL (k:=3) rfl K M rfl rfl rfl BA rfl rfl rfl fun _ M=>?_;refine Ji ?_;show W _ _ _ _ _ _ _;refine au 3 K M ?_;intro _ _ K _ M;refine Jv ⟨.inr rfl,_,(U8 (JC K rfl (M.load (k:=2) rfl (QA U2 rfl))) (QF K rfl)),?_⟩
    have hsg:G2 (L.drop n)=some w:=by rw[hs,GW hw,if_pos (by rw[hfit,h38])]
    have hle2:=uw w _ (by rw[hfit,h38]);rw[List.length_drop]at hle2;refine⟨by simp only[Fo,hsg],M.Us,?_⟩;simp only[Fo,hsg];exact h.next (M.Qn (k:=3) rfl) (h.run.mem M Q3) Qh
   ·refine Qc 3 K M fun _ K=>?_;exact⟨_,Qh,i+1,rfl,(K.sub rfl),M.less (.refl _),Qh,(by rw[hs,GW hw,if_neg (by rw[hfit,h38];decide)])⟩
 ·replace h13:=of_decide_eq_false h13;refine Jx ?_;show W _ _ _ _ _ _ _;refine au 3 K M ?_;intro _ _ K _ M;refine Jv ⟨.inr rfl,_,(U8 (JC K rfl (M.load (k:=1) rfl (QA U2 rfl))) (QF K rfl)),?_⟩
  have hsg:G2 (L.drop n)=none:=by rw[hs,show Xl.drop i=[]from List.drop_eq_nil_of_le (by show 18≤i;omega)];rfl
  refine⟨by simp only[Fo,hsg],M.Us,?_⟩;simp only[Fo,hsg];exact h.next (M.Qn (k:=2) rfl) (h.run.mem M Q3) Qh

theorem T8{st:St}(hf:Qw st){g:Nat}{l:List Nat}{ks:AV}{bad:Option Nat}{n:Nat}(h:OD st.h.get g l ks L bad n)(hn:n<L.length): ∃v st',Ev Tryz.prog QR 42 [.ptr g 0 0] st v st'∧v=.tup [.agg (EJ l bad L n).1,.bool (EJ l bad L n).2.1]∧Ad [g] st st'∧OD st'.h.get g l ks L bad (n+(EJ l bad L n).2.2):=by
 have hrl:= @Wj L;have hfew:=h.few;have hle:=h.le;have hsz:=h.size;refine Yu Tryz.func42 Tryz.ntmps42 fun T K=>?_;have M:=Mem.UP hf h.row;refine au 3 K M ?_;intro c2 _ _ K _ M;refine oQ K M (Sk M.fresh (h.next (M.Qn (k:=1) rfl) (h.run.mem M Q3) Qh)) rfl rfl fun _ _ K M=>?_;refine Qc 2 K M fun _ K=>?_;refine JU K rfl (fun h6=>?_) fun h6=>?_
 ·replace h6:=of_decide_eq_true h6;refine Qc 1 K M fun _ K=>?_;obtain⟨v9,st9,ev9,rfl,q9,r9⟩:=qQ M.fresh (h.next (M.Qn (k:=1) rfl) (h.run.mem M Q3) Qh) Qh ‹_›;refine p1 K (Qe rfl ev9) fun _ K=>?_;replace M:=M.J8 (k:=1) rfl q9 r9.row;refine au 4 K M ?_;intro _ _ K _ M;refine Jv ⟨.inr rfl,_,(U8 (JC K rfl (M.load (k:=0) rfl (QA U2 rfl))) (QF K rfl)),?_⟩;exact⟨(by rw[EJ,if_pos ‹Jb L n=1›];rfl),M.Us,(by rw[EJ,if_pos ‹Jb L n=1›];exact h.next (M.Qn (k:=1) rfl) (h.run.mem M Q3) r9.le)⟩
 ·replace h6:=of_decide_eq_false h6;refine Qc 2 K M fun _ K=>?_;refine JU K rfl (fun h12=>?_) fun h12=>?_
  ·replace h12:=of_decide_eq_true h12;refine Qc 1 K M fun _ K=>?_;obtain⟨v15,st15,ev15,rfl,q15,r15⟩:=PQ M.fresh (h.next (M.Qn (k:=1) rfl) (h.run.mem M Q3) Qh) Qh;refine p1 K (Qe rfl ev15) fun _ K=>?_;replace M:=M.J8 (k:=1) rfl q15 r15.row;refine au 4 K M ?_;intro _ _ K _ M;refine Jv ⟨.inr rfl,_,(U8 (JC K rfl (M.load (k:=0) rfl (QA U2 rfl))) (QF K rfl)),?_⟩;exact⟨(by rw[EJ,if_neg ‹¬Jb L n=1›,if_pos ‹Jb L n=2›];rfl),M.Us,(by rw[EJ,if_neg ‹¬Jb L n=1›,if_pos ‹Jb L n=2›];exact h.next (M.Qn (k:=1) rfl) (h.run.mem M Q3) r15.le)⟩
  ·replace h12:=of_decide_eq_false h12;refine Qc 1 K M fun _ K=>?_;obtain⟨sk,stx,sp,hsc⟩:=Lq l bad L n;obtain⟨v19,st19,ev19,rfl,q19,r19⟩:=hsc▸qO M.fresh (h.next (M.Qn (k:=1) rfl) (h.run.mem M Q3) Qh) Qh;refine p1 K (Qe rfl ev19) fun _ K=>?_;replace M:=M.J8 (k:=1) rfl q19 r19.row;refine au 4 K M ?_;intro _ _ K _ M;refine Jv ⟨.inr rfl,_,(U8 (JC K rfl (M.load (k:=0) rfl (QA U2 rfl))) (QF K rfl)),?_⟩;exact⟨(by rw[EJ,if_neg ‹¬Jb L n=1›,if_neg ‹¬Jb L n=2›,hsc]),M.Us,(by rw[EJ,if_neg ‹¬Jb L n=1›,if_neg ‹¬Jb L n=2›];exact h.next (M.Qn (k:=1) rfl) (h.run.mem M Q3) r19.le)⟩
end
section
variable {l:List Nat}

set_option maxRecDepth 100000 in
set_option maxHeartbeats 4000000 in
theorem uT(n m b0 b1 b2 b3 c1 c2 c3:Nat)(hmn:m≤n)(hw:(Lib.decodeN n b0 b1 b2 b3).2≤m)(h1:1<m→c1=b1)(h2:2<m→c2=b2)(h3:3<m→c3=b3):Lib.decodeN m b0 c1 c2 c3=Lib.decodeN n b0 b1 b2 b3:=by
 unfold Lib.decodeN at hw ⊢
 by_cases a0:b0<128
 ·rw[if_pos a0,if_pos a0]
 rw[if_neg a0]at hw;rw[if_neg a0,if_neg a0]
 by_cases a1:b0/32=6∧(1<n∧b1/64=2)
 ·rw[if_pos a1]at hw;rw[if_pos a1]
  by_cases hm:1<m
  ·rw[h1 hm,if_pos ⟨a1.1,hm,a1.2.2⟩]
  ·rw[if_neg (fun h=>hm h.2.1),if_neg Qh,if_neg Qh]
   split at hw
   ·exfalso;simp only at hw;omega
   ·rename_i h;rw[if_neg h]
 rw[if_neg a1]at hw;rw[if_neg a1]
 by_cases a2:b0/16=14∧(1<n∧b1/64=2)∧(2<n∧b2/64=2)
 ·rw[if_pos a2]at hw;rw[if_pos a2,if_neg Qh]
  by_cases hm:2<m
  ·rw[h1 Qh,h2 hm,if_pos ⟨a2.1,⟨by omega,a2.2.1.2⟩,hm,a2.2.2.2⟩]
  ·rw[if_neg (fun h=>hm h.2.2.1),if_neg Qh]
   split at hw
   ·exfalso;simp only at hw;omega
   ·rename_i h;rw[if_neg h]
 rw[if_neg a2]at hw;rw[if_neg a2]
 by_cases a3:b0/8=30∧(1<n∧b1/64=2)∧(2<n∧b2/64=2)∧(3<n∧b3/64=2)
 ·rw[if_pos a3]at hw;rw[if_pos a3,if_neg Qh,if_neg Qh]
  by_cases hm:3<m
  ·rw[h1 Qh,h2 Qh,h3 hm,if_pos ⟨a3.1,⟨by omega,a3.2.1.2⟩,⟨by omega,a3.2.2.1.2⟩,hm,a3.2.2.2.2⟩]
  ·rw[if_neg (fun h=>hm h.2.2.2.1)]
   split at hw
   ·exfalso;simp only at hw;omega
   ·rename_i h;rw[if_neg h]
 rw[if_neg a3];rw[if_neg,if_neg,if_neg]
 ·intro h;exact a3 ⟨h.1,⟨by omega,by rw[←h1 h.2.1.1];exact h.2.1.2⟩,⟨by omega,by rw[←h2 h.2.2.1.1];exact h.2.2.1.2⟩,by omega,by rw[←h3 h.2.2.2.1];exact h.2.2.2.2⟩
 ·intro h;exact a2 ⟨h.1,⟨by omega,by rw[←h1 h.2.1.1];exact h.2.1.2⟩,by omega,by rw[←h2 h.2.2.1];exact h.2.2.2⟩
 ·intro h;exact a1 ⟨h.1,by omega,by rw[←h1 h.2.1];exact h.2.2⟩
theorem LU(s:ByteArray)(a b k:Nat)(h:a+k<b)(hb:b≤s.size):(s.extract a b).get! k=s.get! (a+k):=by
 have hz:(s.extract a b).size=b-a:=by simp;omega
 rw[get_eq _ _ Qh,get_eq _ _ Qh];simp[ByteArray.data_extract]
theorem R4(s:ByteArray)(a b p:Nat)(h1:a≤p)(h2:p<b)(h3:b≤s.size)(hw:p+(Utf8.decode s p).2≤b):Utf8.decode (s.extract a b) (p-a)=Utf8.decode s p:=by
 have hz:(s.extract a b).size=b-a:=by simp;omega
 have hw':=hw;rw[Lib.decode_at]at hw' ⊢;rw[Lib.decode_at s p,hz]
 have e0:(s.extract a b).get! (p-a)=s.get! p:=by rw[LU s a b _ Qh h3];congr 1;omega
 rw[e0];refine uT _ _ _ _ _ _ _ _ _ Qh Qh (fun h=>?_) (fun h=>?_) (fun h=>?_)
 ·rw[LU s a b _ Qh h3];congr 2;omega
 ·rw[LU s a b _ Qh h3];congr 2;omega
 ·rw[LU s a b _ Qh h3];congr 2;omega
theorem MD(s:ByteArray)(fin a b:Nat)(hb:b≤s.size): ∀(R:List (Nat×Nat)) (p m f:Nat),H9 s fin p R→m≤R.length→a≤p→Q7 fin R m=b→m≤f→X2 (s.extract a b) f (p-a)=m:=by
 have hz:(s.extract a b).size=b-a:=by simp;omega
 intro R
 induction R with
 |nil=>
  intro p m f hc hm hap hpb hf
  obtain rfl:m=0:=by simpa using hm
  have hp:p=fin:=hc;have hpb:fin=b:=hpb;rw[FB _ _ _ Qh]
 |cons x R ih=>
  intro p m f hc hm hap hpb hf;obtain⟨c,q⟩:=x
  cases m with
  |zero=>
   have hpb:q=b:=hpb;have:=hc.1;rw[FB _ _ _ Qh]
  |succ m=>
   obtain⟨hq,hlt,_,_,hc'⟩:=hc
   have hpb':Q7 fin R m=b:=by rw[←hpb];simp[Q7]
   have hm':m≤R.length:=by simpa using hm
   have hpl:=(N0 s fin _ R hc' 0 m (Nat.zero_le _)).1;rw[Wk s fin _ R hc',hpb']at hpl;have hw:=XP s p hlt;obtain⟨f,rfl⟩: ∃f',f=f'+1:=⟨f-1,by omega⟩;rw[Kt _ _ _ Qh,R4 s a b p hap Qh hb hpl];have:=ih (p+(Utf8.decode s p).2) m f hc' hm' Qh hpb' Qh;rw[show p-a+(Utf8.decode s p).2=p+(Utf8.decode s p).2-a by omega,this]
theorem R8(s:ByteArray)(n m:Nat)(h:n+m≤(each s).1.length):count (s.extract (J1 s (each s).2 (each s).1 n) (J1 s (each s).2 (each s).1 (n+m)))=m:=by
 have hc:=Iv s;have hd:=WT s _ n _ 0 hc.1;have h1:=Zj s n (n+m) Qh
 have hz:(s.extract (J1 s (each s).2 (each s).1 n) (J1 s (each s).2 (each s).1 (n+m))).size=J1 s (each s).2 (each s).1 (n+m)-J1 s (each s).2 (each s).1 n:=by simp;omega
 have hge:m≤J1 s (each s).2 (each s).1 (n+m)-J1 s (each s).2 (each s).1 n:=by
  clear hz h1
  induction m with
  |zero=>omega
  |succ m ih=>
   have:=ih Qh;have hm:=Zj s n (n+m) Qh
   have hlt:J1 s (each s).2 (each s).1 (n+m)<J1 s (each s).2 (each s).1 (n+(m+1)):=by
    have hdd:=WT s _ (n+m) _ 0 hc.1
    have hl:n+m<(each s).1.length:=by omega
    rw[Vg _ _ hl]at hdd;obtain⟨_,hlt,_,_,hc'⟩:=hdd;have e1:=Wk s _ _ _ hc';rw[Zi,Nat.add_zero]at e1;have hw:=XP s _ hlt;show Q7 _ _ (n+m)<Q7 _ _ (n+m+1);omega
   omega
 unfold count;rw[hz];have:=MD s (Je s (each s).2) (J1 s (each s).2 (each s).1 n) (J1 s (each s).2 (each s).1 (n+m)) h1.2 ((each s).1.drop n) _ m (J1 s (each s).2 (each s).1 (n+m)-J1 s (each s).2 (each s).1 n) hd (by rw[List.length_drop];omega) (Nat.le_refl _) (Zi _ _ _ _) hge;rw[show Q7 (Je s (each s).2) (each s).1 n-J1 s (each s).2 (each s).1 n=0 from Nat.sub_self _]at this;exact this
theorem zh: ∀(r:List (Nat×Nat)) (a:Nat),Uk 100 (min a 100) r=min (Uk 1000 a r) 100:=by
 intro r
 induction r with
 |nil=>intro a;rfl
 |cons x r ih=>
  intro a;obtain⟨c,q⟩:=x;rw[Uk,Uk]
  split
  ·rw[←ih]
   congr 1
   omega
  ·rfl
theorem PJ: ∀sg∈X5,∀b r,sg.data.toList=b::r→QM (b.toNat:Int)=4:=by
 have h: ∀sg∈X5,(match sg.data.toList with|b::r=>decide (QM (b.toNat:Int)=4)|[]=>true)=true:=by decide+kernel
 intro sg hs b r e;have:=h sg hs;rw[e]at this;exact of_decide_eq_true this
theorem Tx{c a:Nat}{r:List (Nat×Nat)}(h:QM (c:Int)≠4):W8 ((c,a)::r)=none:=by
 unfold W8;rw[List.find?_eq_none];intro sg hs hf;have hz:=(HQ sg hs).1
 cases he:sg.data.toList with
 |nil=>
  have:sg.size=0:=by rw[←ByteArray.size_data,←Array.length_toList,he];rfl
  omega
 |cons b l=>
  rw[he,Et,Bool.and_eq_true,decide_eq_true_iff]at hf;exact h (by rw[hf.1];exact PJ sg hs b l he)

theorem Bytes.sub{r:List Nat}(h:Bytes l)(hs: ∀x∈r,x∈l):Bytes r:=fun x hx=>h x (hs x hx)
theorem Gs(h:Bytes l)(a b:Nat):YP ((bytesOf l).extract a b)=(l.drop a).take (b-a):=by
 rw[AN,ZD (h.sub fun x hx=>List.mem_of_mem_drop (List.mem_of_mem_take hx))]
theorem qp(hB:Bytes l){n:Nat}(hn:n<(each (bytesOf l)).1.length):
  (EJ l (each (bytesOf l)).2 (each (bytesOf l)).1 n).2.1=(V8 (bytesOf l) (Je (bytesOf l) (each (bytesOf l)).2) ((each (bytesOf l)).1.drop n)).ok∧
  ((V8 (bytesOf l) (Je (bytesOf l) (each (bytesOf l)).2) ((each (bytesOf l)).1.drop n)).ok=true→(EJ l (each (bytesOf l)).2 (each (bytesOf l)).1 n).1=(V8 (bytesOf l) (Je (bytesOf l) (each (bytesOf l)).2) ((each (bytesOf l)).1.drop n)).cells∧
   (EJ l (each (bytesOf l)).2 (each (bytesOf l)).1 n).2.2=(V8 (bytesOf l) (Je (bytesOf l) (each (bytesOf l)).2) ((each (bytesOf l)).1.drop n)).len):=by
 obtain⟨c,q,h1,h2⟩:=Z6 hn;have hcl:Jb (each (bytesOf l)).1 n=QM (c:Int):=ZT h1;have hml:=NJ ((each (bytesOf l)).1.drop n);rw[List.length_drop]at hml;have hcn:=R8 (bytesOf l) n (Ul ((each (bytesOf l)).1.drop n)) Qh
 have hp0:Q7 (Je (bytesOf l) (each (bytesOf l)).2) ((each (bytesOf l)).1.drop n) 0=Q7 (Je (bytesOf l) (each (bytesOf l)).2) (each (bytesOf l)).1 n:=by rw[Zi,Nat.add_zero]
 have hpm: ∀m,Q7 (Je (bytesOf l) (each (bytesOf l)).2) ((each (bytesOf l)).1.drop n) m=Q7 (Je (bytesOf l) (each (bytesOf l)).2) (each (bytesOf l)).1 (n+m):=fun m=>Zi _ _ _ _;have hcn':count ((bytesOf l).extract (Q7 (Je (bytesOf l) (each (bytesOf l)).2) (each (bytesOf l)).1 n) (Q7 (Je (bytesOf l) (each (bytesOf l)).2) (each (bytesOf l)).1 (n+Ul ((each (bytesOf l)).1.drop n))))=Ul ((each (bytesOf l)).1.drop n):=hcn;have hisC:Il (each (bytesOf l)).1 n 48=decide ((c:Int)=48):=E6 h1;rw[Sa _ _ _ _ hn]
 have hgn:(each (bytesOf l)).1[n]=(c,q):=by
  obtain⟨_,h⟩:=List.getElem?_eq_some_iff.1 h1;exact h
 rw[hgn];simp only;unfold EJ xh vW Fo;rw[hcl];have hc0:=zh ((each (bytesOf l)).1.drop n) 0;rw[show min 0 100=0 from rfl]at hc0;have hsg:=qJ ((each (bytesOf l)).1.drop n)
 generalize (each (bytesOf l)).1.drop n=r at *
 by_cases k1:QM (c:Int)=1
 ·rw[if_pos k1,if_pos k1];unfold GJ;rw[hp0,hpm,hcn',Tg,Gs hB];refine⟨?_,fun _=>⟨?_,rfl⟩⟩
  ·simp only;rw[Bool.eq_iff_iff,decide_eq_true_iff,decide_eq_true_iff];omega
  ·unfold Yk.cells;simp only[Gs hB];rfl
 ·rw[if_neg k1,if_neg k1]
  by_cases k2:QM (c:Int)=2
  ·rw[if_pos k2,if_pos k2];unfold TV;rw[hp0,hc0,hisC];refine⟨?_,fun hok=>⟨?_,rfl⟩⟩
   ·simp only
    have e1:decide (((Uk 1000 0 r:Nat):Int)≤99)=decide (min (Uk 1000 0 r) 100≤99):=by
     rw[Bool.eq_iff_iff,decide_eq_true_iff,decide_eq_true_iff];omega
    have hd1:1≤Z8 r:=by rw[h2,Z8,if_pos (Zc.1 k2)];omega
    have e2:(!(decide ((c:Int)=48)&&decide (1<((Z8 r:Nat):Int))))=(decide (c≠48)||decide (Z8 r=1)):=by
     rw[Bool.eq_iff_iff];simp only[Bool.not_eq_true',Bool.and_eq_false_iff,decide_eq_false_iff_not,Bool.or_eq_true,decide_eq_true_iff];omega
    rw[e1,e2]
   ·have hok:(decide (min (Uk 1000 0 r) 100≤99)&&_)=true:=hok;rw[Bool.and_eq_true,decide_eq_true_iff]at hok;unfold Yk.cells
    have e3:min (Uk 1000 0 r) 100=Uk 1000 0 r:=by omega
    simp only[e3];rfl
  ·rw[if_neg k2,if_neg k2];rw[hsg]
   by_cases k4:QM (c:Int)=4
   ·rw[if_pos k4];unfold Nr
    cases hs:W8 r with
    |none=>exact⟨rfl,fun h=>by cases h⟩
    |some sg=>
     refine⟨rfl,fun _=>⟨?_,?_⟩⟩
     ·unfold Yk.cells;simp only[Option.map_some,hp0];rfl
     ·simp only[Option.map_some];unfold YP;rw[List.length_map,Array.length_toList,ByteArray.size_data]
   ·rw[if_neg k4,h2,Tx k4];exact⟨rfl,fun h=>by cases h⟩
end
end Go.Proofs.YtaomhhkflohhgaaGreatDoor
