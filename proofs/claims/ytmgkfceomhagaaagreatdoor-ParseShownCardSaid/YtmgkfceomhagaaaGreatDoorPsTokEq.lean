/-
  The reader of 'sibylref2': signs, tokens.
-/
import Derived.Test.YtmgkfceomhagaaaGreatDoorPsRrB
set_option linter.unusedVariables false
namespace Go.Proofs.YtmgkfceomhagaaaGreatDoor
open Go Go.RowKit
section
set_option maxHeartbeats 8000000
set_option maxRecDepth 100000
variable {L:List (Nat×Nat)} {w:List Nat}

theorem yc: ∀(w:List Nat) (r:List (Nat×Nat)),Vx r w=true→w.length≤r.length:=by
 intro w
 induction w with
 |nil=>intro r _;simp
 |cons b w ih=>
  intro r h
  cases r with
  |nil=>cases h
  |cons x r=>
   obtain⟨c,a⟩:=x;rw[Vx,Bool.and_eq_true]at h;have:=ih r h.2;simp;omega
theorem FF{m:Nat}{k b:Nat}(h:w[k]? =some b):Vx (L.drop m) (w.drop k)=(Hy L m (b:Int)&&Vx (L.drop (m+1)) (w.drop (k+1))):=by
 obtain⟨h1,h2⟩:=List.getElem?_eq_some_iff.1 h;rw[List.drop_eq_getElem_cons h1,h2]
 by_cases hm:m<L.length
 ·obtain⟨c,q,h3,h4⟩:=ZU hm;rw[h4,Vx,Es h3]
  congr 1
  rw[Bool.eq_iff_iff,decide_eq_true_iff,decide_eq_true_iff];exact⟨fun e=>by subst e;rfl,fun e=>Int.ofNat_inj.1 e⟩
 ·rw[List.drop_eq_nil_of_le Qq,RO Qq];rfl
theorem La{i:Nat}(h:Xt[i]? =some w):w.length≤3∧ ∀(k b:Nat),w[k]? =some b→b<128:=by
 have h1: ∀w∈Xt,w.length≤3∧ ∀b∈w,b<128:=by decide+kernel
 have h2:=h1 w (List.mem_of_getElem? h);exact⟨h2.1,fun k b hb=>h2.2 b (List.mem_of_getElem? hb)⟩
theorem GQ{i:Nat}(h:Xt[i]? =some w):(Xt.drop i).find? (fun w=>Vx L w)=if Vx L w=true then some w else(Xt.drop (i+1)).find? fun w=>Vx L w:=by
 obtain⟨h1,h2⟩:=List.getElem?_eq_some_iff.1 h;rw[List.drop_eq_getElem_cons h1,List.find?_cons,h2]
 cases Vx L w<;>rfl
def AN(l:List Nat)(bad:Option Nat)(L:List (Nat×Nat))(n:Nat):List AV×Bool×Nat:=match G0 (L.drop n)with
 |some w=>([.int .i64 3,.str w,.int .i64 0,.int .i64 (Q5 (Jq (bytesOf l) bad) L n:Nat)],true,w.length)
 |none=>([.int .i64 0,.str [],.int .i64 0,.int .i64 0],false,0)
def vi(l:List Nat)(bad:Option Nat)(L:List (Nat×Nat))(n:Nat):List AV×Bool×Nat:=
 ([.int .i64 (if VT.contains ((l.drop (Q5 (Jq (bytesOf l) bad) L n)).take (Q5 (Jq (bytesOf l) bad) L (n+JM (L.drop n))-Q5 (Jq (bytesOf l) bad) L n))then 3 else 1),.str ((l.drop (Q5 (Jq (bytesOf l) bad) L n)).take (Q5 (Jq (bytesOf l) bad) L (n+JM (L.drop n))-Q5 (Jq (bytesOf l) bad) L n)),.int .i64 0,.int .i64 (Q5 (Jq (bytesOf l) bad) L n:Nat)],
  decide (((JM (L.drop n):Nat):Int)≤12),JM (L.drop n))
def az(l:List Nat)(bad:Option Nat)(L:List (Nat×Nat))(n:Nat):List AV×Bool×Nat:=
 ([.int .i64 2,.str [],.int .i64 (Ua 1000 0 (L.drop n):Nat),.int .i64 (Q5 (Jq (bytesOf l) bad) L n:Nat)],decide (((Ua 1000 0 (L.drop n):Nat):Int)≤99)&& !(Hy L n 48&&decide (1<((Zh (L.drop n):Nat):Int))),Zh (L.drop n))
def E3(l:List Nat)(bad:Option Nat)(L:List (Nat×Nat))(n:Nat):List AV×Bool×Nat:=if Jo L n=1 then vi l bad L n else if Jo L n=2 then az l bad L n else AN l bad L n
theorem Le(l:List Nat)(bad:Option Nat)(L:List (Nat×Nat))(n:Nat): ∃k t p,(AN l bad L n).1=[.int .i64 k,.str t,.int .i64 0,.int .i64 p]:=by
 unfold AN
 split<;>exact⟨_,_,_,rfl⟩

theorem ju{st:St}(hf:QC st){g:Nat}{l:List Nat}{ks:AV}{bad:Option Nat}{n:Nat}(h:OI st.h.get g l ks L bad n)(hn:n<L.length): ∃v st',Ev Tryz.prog Jy 78 [.ptr g 0 0] st v st'∧v=.tup [.agg (AN l bad L n).1,.bool (AN l bad L n).2.1]∧Vq [g] st st'∧OI st'.h.get g l ks L bad (n+(AN l bad L n).2.2):=by
 have hrl:= @Wl L;have hfew:=h.few;have hle:=h.le;have hsz:=h.size;have hsl:(Xt.map fun w=>[AV.str w]).length=18:=rfl;refine Zw Tryz.func78 Tryz.ntmps78 fun T K=>?_;have M:=Mem.JV hf h.row;refine au 5 K M ?_;intro c2 c9 _ _ K _ M;refine UM (fun mm1 T st9=> ∃(i:Nat),mm1=18-i∧JC [(0,.ptr g 0 0),(2,.ptr c2 0 0),(4,.sl c9 0 0 18 1),(5,iN i)] T∧Mem st.h.get st.n [g] st9 [(c9,0,[.str [60,61,62],.str [61,62],.str [60,61],.str [126,61],.str [61],.str [126],.str [60],.str [38],.str [124],.str [40],.str [41],.str [123],.str [125],.str [44],.str [59],.str [58],.str [43],.str [92]]),(c2,0,[iZ 0,.str [],iZ 0,iZ 0]),(g,0,[.str l,ks,iZ (JR bad),iN n])]∧i≤18∧G0 (L.drop n)=(Xt.drop i).find? (fun w=>Vx (L.drop n) w)) (fun mm1 T st9 hI=>?_) _ _ _ ⟨0,rfl,(K.sub rfl),M.less (.refl _),Qz,rfl⟩;obtain⟨i,rfl,K,M,hi,hs⟩:=hI;refine Qf 4 K M fun _ K=>?_;refine Uj K rfl (fun h13=>?_) fun h13=>?_
 ·replace h13:=of_decide_eq_true h13;refine Yd ?_;show W _ _ _ _ _ _ _;refine Ud<|F3<|Ud<|Yo<|p1 K (Uv rfl) fun _ K=>Xs ?_;show W _ _ _ _ _ _ _;obtain⟨w,hw⟩: ∃w,Xt[i]? =some w:=⟨_,List.getElem?_eq_getElem (by show i<18;omega)⟩;have hw3:=(La hw).1;refine AH (J:=fun T st9=> ∃(okb:Bool),JC [(0,.ptr g 0 0),(2,.ptr c2 0 0),(4,.sl c9 0 0 18 1),(5,iN i),(6,.bool okb)] T∧Mem st.h.get st.n [g] st9 [(c9,0,[.str [60,61,62],.str [61,62],.str [60,61],.str [126,61],.str [61],.str [126],.str [60],.str [38],.str [124],.str [40],.str [41],.str [123],.str [125],.str [44],.str [59],.str [58],.str [43],.str [92]]),(c2,0,[iZ 0,.str [],iZ 0,iZ 0]),(g,0,[.str l,ks,iZ (JR bad),iN n])]∧Vx (L.drop n) w=okb) ?_ (fun T st9 hJ=>?_)
  ·refine Qf 1 K M fun _ K=>?_;refine UM (fun mm2 T st9=> ∃(k:Nat) (okb:Bool),mm2=w.length-k∧JC [(0,.ptr g 0 0),(2,.ptr c2 0 0),(4,.sl c9 0 0 18 1),(5,iN i),(6,.bool okb),(7,iN k)] T∧Mem st.h.get st.n [g] st9 [(c9,0,[.str [60,61,62],.str [61,62],.str [60,61],.str [126,61],.str [61],.str [126],.str [60],.str [38],.str [124],.str [40],.str [41],.str [123],.str [125],.str [44],.str [59],.str [58],.str [43],.str [92]]),(c2,0,[iZ 0,.str [],iZ 0,iZ 0]),(g,0,[.str l,ks,iZ (JR bad),iN n])]∧k≤w.length∧Vx (L.drop n) w=(okb&&Vx (L.drop (n+k)) (w.drop k))) (fun mm2 T st9 hI=>?_) _ _ _ ⟨0,true,rfl,(K.sub rfl),M.less (.refl _),(Nat.zero_le _),rfl⟩;obtain⟨k,okb,rfl,K,M,hk,hf2⟩:=hI;refine Qf 3 K M fun _ K=>?_;obtain⟨x19,m19,f19,q19,_,la19,lo19,lp19⟩:=(QQ.own (X:=[]) (z:=1) (ls:=Xt.map fun w=>[AV.str w]) (M.Ql (k:=0) rfl) Q3 Q3 Qz).load (i:=i) (cs:=[.str w]) (by rw[List.getElem?_map,hw];rfl);refine p1 K (Qo QM (congrArg some q19) rfl Qq) fun _ K=>p1 K (Je rfl (lo19 _ 0 _ QB rfl)) fun _ K=>p1 K (X5 UF rfl rfl) fun _ K=>?_;refine Qf 1 K M fun _ K=>?_;refine Uj K rfl (fun h22=>?_) fun h22=>?_
   ·replace h22:=of_decide_eq_true h22;refine Qf 1 K M fun _ K=>?_;refine oB K (QH rfl) rfl fun b26 _ e26 K=>?_;cases b26
    ·refine Qf 15 K M fun _ K=>?_;exact⟨_,Qq,k+1,false,rfl,(K.sub rfl),M.less (.refl _),Qq,(by first|(rw[hf2,FF hb34,←Bool.and_assoc];rfl)|(rw[hf2,e26];rfl)|(rw[hf2,FF hb34,e26];rfl))⟩
    ·refine Qf 4 K M fun _ K=>?_;obtain⟨x31,m31,f31,q31,_,la31,lo31,lp31⟩:=(QQ.own (X:=[]) (z:=1) (ls:=Xt.map fun w=>[AV.str w]) (M.Ql (k:=0) rfl) Q3 Q3 Qz).load (i:=i) (cs:=[.str w]) (by rw[List.getElem?_map,hw];rfl);refine pg K rfl rfl (Qo QM (congrArg some q31) rfl Qq) fun _ K=>pg K rfl rfl (Je rfl (lo31 _ 0 _ QB rfl)) fun _ K=>?_;refine Qf 1 K M fun _ K=>?_;obtain⟨b34,hb34⟩: ∃b,w[k]? =some b:=⟨_,List.getElem?_eq_getElem Qq⟩;have hs34:=(La hw).2 _ _ hb34;refine pg K rfl rfl (M4 (j:=k) UF rfl rfl hb34) fun _ K=>pg K rfl rfl (NK (c:=(b34:Int)) CH XT rfl (IntWalk.i32_in _ Qq)) fun _ K=>?_;obtain⟨v36,st36,ev36,rfl,q36⟩:=BB M.fresh (h.next (M.Ql (k:=2) rfl) (h.run.mem M Q3) Qq) k Qq (b34:Int);refine pg K rfl rfl (Qe rfl ev36) fun _ K=>?_;replace M:=M.quiet q36;refine Qf 5 K M fun _ K=>?_;exact⟨_,Qq,k+1,(Hy L (n+k) (b34:Int)),rfl,(K.sub rfl),M.less (.refl _),Qq,(by first|(rw[hf2,FF hb34,←Bool.and_assoc];rfl)|(rw[hf2,e26];rfl)|(rw[hf2,FF hb34,e26];rfl))⟩
   ·replace h22:=of_decide_eq_false h22;refine Un ?_
    exact⟨_,(K.sub rfl),M.less (.refl _),(by rw[hf2,show w.drop k=[]from List.drop_eq_nil_of_le Qq];cases L.drop (n+k)<;>simp[Vx])⟩
  ·obtain⟨okb,K,M,hfit⟩:=hJ;refine Qf 1 K M fun _ K=>?_;refine Uj K rfl (fun h38=>?_) fun h38=>?_
   ·refine Ud ?_;refine QR (l:=[(4,0),(5,0),(0,0),(1,0),(2,0),(3,1),(6,0),(7,0),(8,0)]) (by kernel_rfl) ?_;refine q1 rfl K (QH rfl) fun _ K=>?_;obtain⟨v44,st44,ev44,rfl,q44⟩:=SQ M.fresh (h.next (M.Ql (k:=2) rfl) (h.run.mem M Q3) Qq) Qq;refine qA rfl K (Qe rfl ev44) fun _ K=>?_;have Mp:=M;replace M:=M.quiet q44;refine JL 2 K M fun _ K=>?_;obtain⟨x41,m41,f41,q41,_,la41,lo41,lp41,la'41,lo'41,lp'41⟩:=QQ.FX (QQ.own (X:=[]) (z:=1) (ls:=Xt.map fun w=>[AV.str w]) (M.Ql (k:=0) rfl) Q3 Q3 Qz) (QQ.own (X:=[]) (z:=1) (ls:=Xt.map fun w=>[AV.str w]) (Mp.Ql (k:=0) rfl) Q3 Q3 Qz) (i:=i) (cs:=[.str w]) (by rw[List.getElem?_map,hw];rfl);refine q1 rfl K (Qo QM (congrArg some q41) rfl Qq) fun _ K=>?_;refine Q8 rfl K rfl (lo41 _ 0 _ QB rfl) (lo'41 _ 0 _ QB rfl) (QV rfl) rfl Qz fun _ K=>?_;refine JL 1 K M fun _ K=>?_;refine Ih rfl K M XP Qz fun c8 _ _ K M=>?_;have Mp:=M;refine Ju (k:=0) rfl K M rfl rfl rfl Wj rfl rfl rfl fun _ M=>?_;refine QY ?_;show W _ _ _ _ _ _ _;refine Ud ?_;refine QR (l:=[(0,0),(1,0),(2,0),(3,0),(4,0),(5,0),(6,0),(7,0),(8,0),(9,0),(10,0),(11,0),(12,0),(13,0)]) (by kernel_rfl) ?_;refine JL 7 K M fun _ K=>?_;obtain⟨x53,m53,f53,q53,_,la53,lo53,lp53⟩:=(QQ.own (X:=[]) (z:=1) (ls:=Xt.map fun w=>[AV.str w]) (M.Ql (k:=1) rfl) Q3 Q3 Qz).load (i:=i) (cs:=[.str w]) (by rw[List.getElem?_map,hw];rfl);refine q1 rfl K (Qo QM (congrArg some q53) rfl Qq) fun _ K=>q1 rfl K (Je rfl (lo53 _ 0 _ QB rfl)) fun _ K=>q1 rfl K (X5 UF rfl rfl) fun _ K=>?_;refine JL 3 K M fun _ K=>?_;refine Ju (k:=3) rfl K M rfl rfl rfl Rj rfl rfl rfl fun _ M=>?_;refine QY ?_;show W _ _ _ _ _ _ _;refine au 3 K M ?_;intro _ _ K _ M;refine JX ⟨.inr rfl,_,(X4 (UU K rfl (M.load (k:=2) rfl (QO U6 rfl))) (J6 K rfl)),?_⟩
    have hsg:G0 (L.drop n)=some w:=by rw[hs,GQ hw,if_pos (by rw[hfit,h38])]
    have hle2:=yc w _ (by rw[hfit,h38]);rw[List.length_drop]at hle2;refine⟨by simp only[AN,hsg],M.Uh,?_⟩;simp only[AN,hsg];exact h.next (M.Ql (k:=3) rfl) (h.run.mem M Q3) Qq
   ·refine Qf 3 K M fun _ K=>?_;exact⟨_,Qq,i+1,rfl,(K.sub rfl),M.less (.refl _),Qq,(by rw[hs,GQ hw,if_neg (by rw[hfit,h38];decide)])⟩
 ·replace h13:=of_decide_eq_false h13;refine Un ?_;show W _ _ _ _ _ _ _;refine au 3 K M ?_;intro _ _ K _ M;refine JX ⟨.inr rfl,_,(X4 (UU K rfl (M.load (k:=1) rfl (QO U6 rfl))) (J6 K rfl)),?_⟩
  have hsg:G0 (L.drop n)=none:=by rw[hs,show Xt.drop i=[]from List.drop_eq_nil_of_le (by show 18≤i;omega)];rfl
  refine⟨by simp only[AN,hsg],M.Uh,?_⟩;simp only[AN,hsg];exact h.next (M.Ql (k:=2) rfl) (h.run.mem M Q3) Qq

theorem Ml{st:St}(hf:QC st){g:Nat}{l:List Nat}{ks:AV}{bad:Option Nat}{n:Nat}(h:OI st.h.get g l ks L bad n)(hn:n<L.length): ∃v st',Ev Tryz.prog Jy 50 [.ptr g 0 0] st v st'∧v=.tup [.agg (E3 l bad L n).1,.bool (E3 l bad L n).2.1]∧Vq [g] st st'∧OI st'.h.get g l ks L bad (n+(E3 l bad L n).2.2):=by
 have hrl:= @Wl L;have hfew:=h.few;have hle:=h.le;have hsz:=h.size;refine Zw Tryz.func50 Tryz.ntmps50 fun T K=>?_;have M:=Mem.JV hf h.row;refine au 3 K M ?_;intro c2 _ _ K _ M;refine oQ K M (SP M.fresh (h.next (M.Ql (k:=1) rfl) (h.run.mem M Q3) Qq)) rfl rfl fun _ _ K M=>?_;refine Qf 2 K M fun _ K=>?_;refine Uj K rfl (fun h6=>?_) fun h6=>?_
 ·replace h6:=of_decide_eq_true h6;refine Qf 1 K M fun _ K=>?_;obtain⟨v9,st9,ev9,rfl,q9,r9⟩:=jx M.fresh (h.next (M.Ql (k:=1) rfl) (h.run.mem M Q3) Qq) Qq ‹_›;refine p1 K (Qe rfl ev9) fun _ K=>?_;replace M:=M.J8 (k:=1) rfl q9 r9.row;refine au 4 K M ?_;intro _ _ K _ M;refine JX ⟨.inr rfl,_,(X4 (UU K rfl (M.load (k:=0) rfl (QO U6 rfl))) (J6 K rfl)),?_⟩;exact⟨(by rw[E3,if_pos ‹Jo L n=1›];rfl),M.Uh,(by rw[E3,if_pos ‹Jo L n=1›];exact h.next (M.Ql (k:=1) rfl) (h.run.mem M Q3) r9.le)⟩
 ·replace h6:=of_decide_eq_false h6;refine Qf 2 K M fun _ K=>?_;refine Uj K rfl (fun h12=>?_) fun h12=>?_
  ·replace h12:=of_decide_eq_true h12;refine Qf 1 K M fun _ K=>?_;obtain⟨v15,st15,ev15,rfl,q15,r15⟩:=Rr M.fresh (h.next (M.Ql (k:=1) rfl) (h.run.mem M Q3) Qq) Qq;refine p1 K (Qe rfl ev15) fun _ K=>?_;replace M:=M.J8 (k:=1) rfl q15 r15.row;refine au 4 K M ?_;intro _ _ K _ M;refine JX ⟨.inr rfl,_,(X4 (UU K rfl (M.load (k:=0) rfl (QO U6 rfl))) (J6 K rfl)),?_⟩;exact⟨(by rw[E3,if_neg ‹¬Jo L n=1›,if_pos ‹Jo L n=2›];rfl),M.Uh,(by rw[E3,if_neg ‹¬Jo L n=1›,if_pos ‹Jo L n=2›];exact h.next (M.Ql (k:=1) rfl) (h.run.mem M Q3) r15.le)⟩
  ·replace h12:=of_decide_eq_false h12;refine Qf 1 K M fun _ K=>?_;obtain⟨sk,stx,sp,hsc⟩:=Le l bad L n;obtain⟨v19,st19,ev19,rfl,q19,r19⟩:=hsc▸ju M.fresh (h.next (M.Ql (k:=1) rfl) (h.run.mem M Q3) Qq) Qq;refine p1 K (Qe rfl ev19) fun _ K=>?_;replace M:=M.J8 (k:=1) rfl q19 r19.row;refine au 4 K M ?_;intro _ _ K _ M;refine JX ⟨.inr rfl,_,(X4 (UU K rfl (M.load (k:=0) rfl (QO U6 rfl))) (J6 K rfl)),?_⟩;exact⟨(by rw[E3,if_neg ‹¬Jo L n=1›,if_neg ‹¬Jo L n=2›,hsc]),M.Uh,(by rw[E3,if_neg ‹¬Jo L n=1›,if_neg ‹¬Jo L n=2›];exact h.next (M.Ql (k:=1) rfl) (h.run.mem M Q3) r19.le)⟩
end
section
variable {l:List Nat}

set_option maxRecDepth 100000 in
set_option maxHeartbeats 4000000 in
theorem yA(n m b0 b1 b2 b3 c1 c2 c3:Nat)(hmn:m≤n)(hw:(Lib.decodeN n b0 b1 b2 b3).2≤m)(h1:1<m→c1=b1)(h2:2<m→c2=b2)(h3:3<m→c3=b3):Lib.decodeN m b0 c1 c2 c3=Lib.decodeN n b0 b1 b2 b3:=by
 unfold Lib.decodeN at hw ⊢
 by_cases a0:b0<128
 ·rw[if_pos a0,if_pos a0]
 rw[if_neg a0]at hw;rw[if_neg a0,if_neg a0]
 by_cases a1:b0/32=6∧(1<n∧b1/64=2)
 ·rw[if_pos a1]at hw;rw[if_pos a1]
  by_cases hm:1<m
  ·rw[h1 hm,if_pos ⟨a1.1,hm,a1.2.2⟩]
  ·rw[if_neg (fun h=>hm h.2.1),if_neg Qq,if_neg Qq]
   split at hw
   ·exfalso;simp only at hw;omega
   ·rename_i h;rw[if_neg h]
 rw[if_neg a1]at hw;rw[if_neg a1]
 by_cases a2:b0/16=14∧(1<n∧b1/64=2)∧(2<n∧b2/64=2)
 ·rw[if_pos a2]at hw;rw[if_pos a2,if_neg Qq]
  by_cases hm:2<m
  ·rw[h1 Qq,h2 hm,if_pos ⟨a2.1,⟨by omega,a2.2.1.2⟩,hm,a2.2.2.2⟩]
  ·rw[if_neg (fun h=>hm h.2.2.1),if_neg Qq]
   split at hw
   ·exfalso;simp only at hw;omega
   ·rename_i h;rw[if_neg h]
 rw[if_neg a2]at hw;rw[if_neg a2]
 by_cases a3:b0/8=30∧(1<n∧b1/64=2)∧(2<n∧b2/64=2)∧(3<n∧b3/64=2)
 ·rw[if_pos a3]at hw;rw[if_pos a3,if_neg Qq,if_neg Qq]
  by_cases hm:3<m
  ·rw[h1 Qq,h2 Qq,h3 hm,if_pos ⟨a3.1,⟨by omega,a3.2.1.2⟩,⟨by omega,a3.2.2.1.2⟩,hm,a3.2.2.2.2⟩]
  ·rw[if_neg (fun h=>hm h.2.2.2.1)]
   split at hw
   ·exfalso;simp only at hw;omega
   ·rename_i h;rw[if_neg h]
 rw[if_neg a3];rw[if_neg,if_neg,if_neg]
 ·intro h;exact a3 ⟨h.1,⟨by omega,by rw[←h1 h.2.1.1];exact h.2.1.2⟩,⟨by omega,by rw[←h2 h.2.2.1.1];exact h.2.2.1.2⟩,by omega,by rw[←h3 h.2.2.2.1];exact h.2.2.2.2⟩
 ·intro h;exact a2 ⟨h.1,⟨by omega,by rw[←h1 h.2.1.1];exact h.2.1.2⟩,by omega,by rw[←h2 h.2.2.1];exact h.2.2.2⟩
 ·intro h;exact a1 ⟨h.1,by omega,by rw[←h1 h.2.1];exact h.2.2⟩
theorem LU(s:ByteArray)(a b k:Nat)(h:a+k<b)(hb:b≤s.size):(s.extract a b).get! k=s.get! (a+k):=by
 have hz:(s.extract a b).size=b-a:=by simp;omega
 rw[get_eq _ _ Qq,get_eq _ _ Qq];simp[ByteArray.data_extract]
theorem RW(s:ByteArray)(a b p:Nat)(h1:a≤p)(h2:p<b)(h3:b≤s.size)(hw:p+(Utf8.decode s p).2≤b):Utf8.decode (s.extract a b) (p-a)=Utf8.decode s p:=by
 have hz:(s.extract a b).size=b-a:=by simp;omega
 have hw':=hw;rw[Lib.decode_at]at hw' ⊢;rw[Lib.decode_at s p,hz]
 have e0:(s.extract a b).get! (p-a)=s.get! p:=by rw[LU s a b _ Qq h3];congr 1;omega
 rw[e0];refine yA _ _ _ _ _ _ _ _ _ Qq Qq (fun h=>?_) (fun h=>?_) (fun h=>?_)
 ·rw[LU s a b _ Qq h3];congr 2;omega
 ·rw[LU s a b _ Qq h3];congr 2;omega
 ·rw[LU s a b _ Qq h3];congr 2;omega
theorem qb(s:ByteArray)(fin a b:Nat)(hb:b≤s.size): ∀(R:List (Nat×Nat)) (p m f:Nat),Hi s fin p R→m≤R.length→a≤p→Q5 fin R m=b→m≤f→X6 (s.extract a b) f (p-a)=m:=by
 have hz:(s.extract a b).size=b-a:=by simp;omega
 intro R
 induction R with
 |nil=>
  intro p m f hc hm hap hpb hf
  obtain rfl:m=0:=by simpa using hm
  have hp:p=fin:=hc;have hpb:fin=b:=hpb;rw[Fk _ _ _ Qq]
 |cons x R ih=>
  intro p m f hc hm hap hpb hf;obtain⟨c,q⟩:=x
  cases m with
  |zero=>
   have hpb:q=b:=hpb;have:=hc.1;rw[Fk _ _ _ Qq]
  |succ m=>
   obtain⟨hq,hlt,_,_,hc'⟩:=hc
   have hpb':Q5 fin R m=b:=by rw[←hpb];simp[Q5]
   have hm':m≤R.length:=by simpa using hm
   have hpl:=(NC s fin _ R hc' 0 m (Nat.zero_le _)).1;rw[Wm s fin _ R hc',hpb']at hpl;have hw:=ZJ s p hlt;obtain⟨f,rfl⟩: ∃f',f=f'+1:=⟨f-1,by omega⟩;rw[Kb _ _ _ Qq,RW s a b p hap Qq hb hpl];have:=ih (p+(Utf8.decode s p).2) m f hc' hm' Qq hpb' Qq;rw[show p-a+(Utf8.decode s p).2=p+(Utf8.decode s p).2-a by omega,this]
theorem Sa(s:ByteArray)(n m:Nat)(h:n+m≤(each s).1.length):count (s.extract (JI s (each s).2 (each s).1 n) (JI s (each s).2 (each s).1 (n+m)))=m:=by
 have hc:=H9 s;have hd:=WO s _ n _ 0 hc.1;have h1:=Z2 s n (n+m) Qq
 have hz:(s.extract (JI s (each s).2 (each s).1 n) (JI s (each s).2 (each s).1 (n+m))).size=JI s (each s).2 (each s).1 (n+m)-JI s (each s).2 (each s).1 n:=by simp;omega
 have hge:m≤JI s (each s).2 (each s).1 (n+m)-JI s (each s).2 (each s).1 n:=by
  clear hz h1
  induction m with
  |zero=>omega
  |succ m ih=>
   have:=ih Qq;have hm:=Z2 s n (n+m) Qq
   have hlt:JI s (each s).2 (each s).1 (n+m)<JI s (each s).2 (each s).1 (n+(m+1)):=by
    have hdd:=WO s _ (n+m) _ 0 hc.1
    have hl:n+m<(each s).1.length:=by omega
    rw[Vi _ _ hl]at hdd;obtain⟨_,hlt,_,_,hc'⟩:=hdd;have e1:=Wm s _ _ _ hc';rw[Z1,Nat.add_zero]at e1;have hw:=ZJ s _ hlt;show Q5 _ _ (n+m)<Q5 _ _ (n+m+1);omega
   omega
 unfold count;rw[hz];have:=qb s (Jq s (each s).2) (JI s (each s).2 (each s).1 n) (JI s (each s).2 (each s).1 (n+m)) h1.2 ((each s).1.drop n) _ m (JI s (each s).2 (each s).1 (n+m)-JI s (each s).2 (each s).1 n) hd (by rw[List.length_drop];omega) (Nat.le_refl _) (Z1 _ _ _ _) hge;rw[show Q5 (Jq s (each s).2) (each s).1 n-JI s (each s).2 (each s).1 n=0 from Nat.sub_self _]at this;exact this
theorem xg: ∀(r:List (Nat×Nat)) (a:Nat),Ua 100 (min a 100) r=min (Ua 1000 a r) 100:=by
 intro r
 induction r with
 |nil=>intro a;rfl
 |cons x r ih=>
  intro a;obtain⟨c,q⟩:=x;rw[Ua,Ua]
  split
  ·rw[←ih]
   congr 1
   omega
  ·rfl
theorem Rm: ∀sg∈ZZ,∀b r,sg.data.toList=b::r→QJ (b.toNat:Int)=4:=by
 have h: ∀sg∈ZZ,(match sg.data.toList with|b::r=>decide (QJ (b.toNat:Int)=4)|[]=>true)=true:=by decide+kernel
 intro sg hs b r e;have:=h sg hs;rw[e]at this;exact of_decide_eq_true this
theorem Mh{c a:Nat}{r:List (Nat×Nat)}(h:QJ (c:Int)≠4):VW ((c,a)::r)=none:=by
 unfold VW;rw[List.find?_eq_none];intro sg hs hf;have hz:=(Hm sg hs).1
 cases he:sg.data.toList with
 |nil=>
  have:sg.size=0:=by rw[←ByteArray.size_data,←Array.length_toList,he];rfl
  omega
 |cons b l=>
  rw[he,ZB,Bool.and_eq_true,decide_eq_true_iff]at hf;exact h (by rw[hf.1];exact Rm sg hs b l he)

theorem Bytes.sub{r:List Nat}(h:Bytes l)(hs: ∀x∈r,x∈l):Bytes r:=fun x hx=>h x (hs x hx)
theorem Gt(h:Bytes l)(a b:Nat):Y4 ((bytesOf l).extract a b)=(l.drop a).take (b-a):=by
 rw[Av,Yp (h.sub fun x hx=>List.mem_of_mem_drop (List.mem_of_mem_take hx))]
theorem qQ(hB:Bytes l){n:Nat}(hn:n<(each (bytesOf l)).1.length):
  (E3 l (each (bytesOf l)).2 (each (bytesOf l)).1 n).2.1=(Z7 (bytesOf l) (Jq (bytesOf l) (each (bytesOf l)).2) ((each (bytesOf l)).1.drop n)).ok∧
  ((Z7 (bytesOf l) (Jq (bytesOf l) (each (bytesOf l)).2) ((each (bytesOf l)).1.drop n)).ok=true→(E3 l (each (bytesOf l)).2 (each (bytesOf l)).1 n).1=(Z7 (bytesOf l) (Jq (bytesOf l) (each (bytesOf l)).2) ((each (bytesOf l)).1.drop n)).cells∧
   (E3 l (each (bytesOf l)).2 (each (bytesOf l)).1 n).2.2=(Z7 (bytesOf l) (Jq (bytesOf l) (each (bytesOf l)).2) ((each (bytesOf l)).1.drop n)).len):=by
 obtain⟨c,q,h1,h2⟩:=ZU hn;have hcl:Jo (each (bytesOf l)).1 n=QJ (c:Int):=Xj h1;have hml:=IA ((each (bytesOf l)).1.drop n);rw[List.length_drop]at hml;have hcn:=Sa (bytesOf l) n (JM ((each (bytesOf l)).1.drop n)) Qq
 have hp0:Q5 (Jq (bytesOf l) (each (bytesOf l)).2) ((each (bytesOf l)).1.drop n) 0=Q5 (Jq (bytesOf l) (each (bytesOf l)).2) (each (bytesOf l)).1 n:=by rw[Z1,Nat.add_zero]
 have hpm: ∀m,Q5 (Jq (bytesOf l) (each (bytesOf l)).2) ((each (bytesOf l)).1.drop n) m=Q5 (Jq (bytesOf l) (each (bytesOf l)).2) (each (bytesOf l)).1 (n+m):=fun m=>Z1 _ _ _ _;have hcn':count ((bytesOf l).extract (Q5 (Jq (bytesOf l) (each (bytesOf l)).2) (each (bytesOf l)).1 n) (Q5 (Jq (bytesOf l) (each (bytesOf l)).2) (each (bytesOf l)).1 (n+JM ((each (bytesOf l)).1.drop n))))=JM ((each (bytesOf l)).1.drop n):=hcn;have hisC:Hy (each (bytesOf l)).1 n 48=decide ((c:Int)=48):=Es h1;rw[SA _ _ _ _ hn]
 have hgn:(each (bytesOf l)).1[n]=(c,q):=by
  obtain⟨_,h⟩:=List.getElem?_eq_some_iff.1 h1;exact h
 rw[hgn];simp only;unfold E3 vi az AN;rw[hcl];have hc0:=xg ((each (bytesOf l)).1.drop n) 0;rw[show min 0 100=0 from rfl]at hc0;have hsg:=jk ((each (bytesOf l)).1.drop n)
 generalize (each (bytesOf l)).1.drop n=r at *
 by_cases k1:QJ (c:Int)=1
 ·rw[if_pos k1,if_pos k1];unfold I9;rw[hp0,hpm,hcn',TP,Gt hB];refine⟨?_,fun _=>⟨?_,rfl⟩⟩
  ·simp only;rw[Bool.eq_iff_iff,decide_eq_true_iff,decide_eq_true_iff];omega
  ·unfold US.cells;simp only[Gt hB];rfl
 ·rw[if_neg k1,if_neg k1]
  by_cases k2:QJ (c:Int)=2
  ·rw[if_pos k2,if_pos k2];unfold BN;rw[hp0,hc0,hisC];refine⟨?_,fun hok=>⟨?_,rfl⟩⟩
   ·simp only
    have e1:decide (((Ua 1000 0 r:Nat):Int)≤99)=decide (min (Ua 1000 0 r) 100≤99):=by
     rw[Bool.eq_iff_iff,decide_eq_true_iff,decide_eq_true_iff];omega
    have hd1:1≤Zh r:=by rw[h2,Zh,if_pos (YY.1 k2)];omega
    have e2:(!(decide ((c:Int)=48)&&decide (1<((Zh r:Nat):Int))))=(decide (c≠48)||decide (Zh r=1)):=by
     rw[Bool.eq_iff_iff];simp only[Bool.not_eq_true',Bool.and_eq_false_iff,decide_eq_false_iff_not,Bool.or_eq_true,decide_eq_true_iff];omega
    rw[e1,e2]
   ·have hok:(decide (min (Ua 1000 0 r) 100≤99)&&_)=true:=hok;rw[Bool.and_eq_true,decide_eq_true_iff]at hok;unfold US.cells
    have e3:min (Ua 1000 0 r) 100=Ua 1000 0 r:=by omega
    simp only[e3];rfl
  ·rw[if_neg k2,if_neg k2];rw[hsg]
   by_cases k4:QJ (c:Int)=4
   ·rw[if_pos k4];unfold FV
    cases hs:VW r with
    |none=>exact⟨rfl,fun h=>by cases h⟩
    |some sg=>
     refine⟨rfl,fun _=>⟨?_,?_⟩⟩
     ·unfold US.cells;simp only[Option.map_some,hp0];rfl
     ·simp only[Option.map_some];unfold Y4;rw[List.length_map,Array.length_toList,ByteArray.size_data]
   ·rw[if_neg k4,h2,Mh k4];exact⟨rfl,fun h=>by cases h⟩
end
end Go.Proofs.YtmgkfceomhagaaaGreatDoor
