/-
  The reader of 'sibylref2': signs, tokens.
-/
import Derived.Test.YtadjjadimlkkgaaGreatDoorLoRrB
set_option maxHeartbeats 8000000
set_option maxRecDepth 100000
set_option linter.unusedSimpArgs false
set_option linter.unusedVariables false
section
namespace Go.Proofs.YtadjjadimlkkgaaGreatDoor
open Go Go.RowKit

theorem qA: ∀(w:List Nat) (r:List (Nat×Nat)),Vv r w=true→w.length≤r.length:=by
 intro w
 induction w with
 |nil=>intro r _;simp
 |cons b w ih=>
  intro r h
  cases r with
  |nil=>cases h
  |cons x r=>
   obtain⟨c,a⟩:=x;rw[Vv,Bool.and_eq_true]at h;have:=ih r h.2;simp;omega
theorem FU{L:List (Nat×Nat)}{m:Nat}{w:List Nat}{k b:Nat}(h:w[k]? =some b):Vv (L.drop m) (w.drop k)=(Ia L m (b:Int)&&Vv (L.drop (m+1)) (w.drop (k+1))):=by
 obtain⟨h1,h2⟩:=List.getElem?_eq_some_iff.1 h;rw[List.drop_eq_getElem_cons h1,h2]
 by_cases hm:m<L.length
 ·obtain⟨c,q,h3,h4⟩:=ZG hm;rw[h4,Vv,E2 h3]
  congr 1
  rw[Bool.eq_iff_iff,decide_eq_true_iff,decide_eq_true_iff];exact⟨fun e=>by subst e;rfl,fun e=>Int.ofNat_inj.1 e⟩
 ·rw[List.drop_eq_nil_of_le (by omega),Pm (by omega)];rfl
theorem KQ{i:Nat}{w:List Nat}(h:Xq[i]? =some w):w.length≤3∧ ∀(k b:Nat),w[k]? =some b→b<128:=by
 have h1: ∀w∈Xq,w.length≤3∧ ∀b∈w,b<128:=by decide+kernel
 have h2:=h1 w (List.mem_of_getElem? h);exact⟨h2.1,fun k b hb=>h2.2 b (List.mem_of_getElem? hb)⟩
theorem Gl{L:List (Nat×Nat)}{i:Nat}{w:List Nat}(h:Xq[i]? =some w):(Xq.drop i).find? (fun w=>Vv L w)=if Vv L w=true then some w else(Xq.drop (i+1)).find? fun w=>Vv L w:=by
 obtain⟨h1,h2⟩:=List.getElem?_eq_some_iff.1 h;rw[List.drop_eq_getElem_cons h1,List.find?_cons,h2]
 cases Vv L w<;>rfl
def Ff(l:List Nat)(bad:Option Nat)(L:List (Nat×Nat))(n:Nat):List AV×Bool×Nat:=match OO (L.drop n)with
 |some w=>([.int .i64 3,.str w,.int .i64 0,.int .i64 ((QK (Jx (bytesOf l) bad) L n:Nat):Int)],true,w.length)
 |none=>([.int .i64 0,.str [],.int .i64 0,.int .i64 0],false,0)
def y7(l:List Nat)(bad:Option Nat)(L:List (Nat×Nat))(n:Nat):List AV×Bool×Nat:=
 ([.int .i64 (if VX.contains ((l.drop (QK (Jx (bytesOf l) bad) L n)).take (QK (Jx (bytesOf l) bad) L (n+Uy (L.drop n))-QK (Jx (bytesOf l) bad) L n))then 3 else 1),.str ((l.drop (QK (Jx (bytesOf l) bad) L n)).take (QK (Jx (bytesOf l) bad) L (n+Uy (L.drop n))-QK (Jx (bytesOf l) bad) L n)),.int .i64 0,.int .i64 ((QK (Jx (bytesOf l) bad) L n:Nat):Int)],
  decide (((Uy (L.drop n):Nat):Int)≤12),Uy (L.drop n))
def xb(l:List Nat)(bad:Option Nat)(L:List (Nat×Nat))(n:Nat):List AV×Bool×Nat:=
 ([.int .i64 2,.str [],.int .i64 ((Ux 1000 0 (L.drop n):Nat):Int),.int .i64 ((QK (Jx (bytesOf l) bad) L n:Nat):Int)],decide (((Ux 1000 0 (L.drop n):Nat):Int)≤99)&& !(Ia L n 48&&decide (1<((ZN (L.drop n):Nat):Int))),ZN (L.drop n))
def WG(l:List Nat)(bad:Option Nat)(L:List (Nat×Nat))(n:Nat):List AV×Bool×Nat:=if Jr L n=1 then y7 l bad L n else if Jr L n=2 then xb l bad L n else Ff l bad L n
theorem KS(l:List Nat)(bad:Option Nat)(L:List (Nat×Nat))(n:Nat): ∃k t p,(Ff l bad L n).1=[.int .i64 k,.str t,.int .i64 0,.int .i64 p]:=by
 unfold Ff
 split<;>exact⟨_,_,_,rfl⟩

theorem Mw{st:St}(hf:Q6 st){g:Nat}{l:List Nat}{ks:AV}{L:List (Nat×Nat)}{bad:Option Nat}{n:Nat}(h:Oh st.h.get g l ks L bad n)(hn:n<L.length): ∃v st',Ev Tryz.prog Ja 137 [.ptr g 0 0] st v st'∧v=.tup [.agg (Ff l bad L n).1,.bool (Ff l bad L n).2.1]∧Ag [g] st st'∧Oh st'.h.get g l ks L bad (n+(Ff l bad L n).2.2):=by
 have hrl:= @Wq L;have hfew:=h.few;have hle:=h.le;have hsz:=h.size;have hsl:(Xq.map fun w=>[AV.str w]).length=18:=rfl;refine QC rfl Tryz.func137 rfl Tryz.ntmps137 rfl fun T hT=>?_;have K:Jm [(0,_)] T:=(.cons (hT 0) .nil);have M:=Mem.UP hf h.row;refine au 2 K M ?_;intro c2 _ _ K _ M;refine YK K M Zl XK rfl rfl rfl rfl rfl fun c9 _ _ K M=>?_;refine Qg 2 K M ?_;intro _ K;refine U8 (fun mm1 T st9=> ∃(i:Nat),mm1=18-i∧Jm [(0,.ptr g 0 0),(2,.ptr c2 0 0),(4,.sl c9 0 0 18 1),(5,.int .i64 (((i:Nat):Int)))] T∧Mem st.h.get st.n [g] st9 [(c9,0,[.str [60,61,62],.str [61,62],.str [60,61],.str [126,61],.str [61],.str [126],.str [60],.str [38],.str [124],.str [40],.str [41],.str [123],.str [125],.str [44],.str [59],.str [58],.str [43],.str [92]]),(c2,0,[.int .i64 0,.str [],.int .i64 0,.int .i64 0]),(g,0,[.str l,ks,.int .i64 (JE bad),.int .i64 (((n:Nat):Int))])]∧i≤18∧OO (L.drop n)=(Xq.drop i).find? (fun w=>Vv (L.drop n) w)) (fun mm1 T st9 hI=>?_) _ _ _ ⟨0,rfl,(.cons (K _ _ rfl) (.cons (K _ _ rfl) (.cons (K _ _ rfl) (.cons (K _ _ rfl) .nil)))),M.less (.refl _),(by decide),rfl⟩;obtain⟨i,rfl,K,M,hi,hs⟩:=hI;refine Qg 2 K M ?_;intro _ K;refine o1 K (Jd Ur rfl rfl rfl) rfl fun _ K=>?_;refine Qg 1 K M ?_;intro _ K;refine Qn (K.QR rfl) (fun h13=>?_) (fun h13=>?_)
 ·replace h13:=of_decide_eq_true h13;refine QT ?_;show W _ _ _ _ _ _ _;refine Qq<|Uw<|Qq<|Qh<|o1 K (QM rfl) rfl fun _ K=>Q5 ?_;show W _ _ _ _ _ _ _;obtain⟨w,hw⟩: ∃w,Xq[i]? =some w:=⟨_,List.getElem?_eq_getElem (by show i<18;omega)⟩;have hw3:=(KQ hw).1;refine EK (J:=fun T st9=> ∃(okb:Bool),Jm [(0,.ptr g 0 0),(2,.ptr c2 0 0),(4,.sl c9 0 0 18 1),(5,.int .i64 (((i:Nat):Int))),(6,.bool okb)] T∧Mem st.h.get st.n [g] st9 [(c9,0,[.str [60,61,62],.str [61,62],.str [60,61],.str [126,61],.str [61],.str [126],.str [60],.str [38],.str [124],.str [40],.str [41],.str [123],.str [125],.str [44],.str [59],.str [58],.str [43],.str [92]]),(c2,0,[.int .i64 0,.str [],.int .i64 0,.int .i64 0]),(g,0,[.str l,ks,.int .i64 (JE bad),.int .i64 (((n:Nat):Int))])]∧Vv (L.drop n) w=okb) ?_ (fun T st9 hJ=>?_)
  ·refine Qg 1 K M ?_;intro _ K;refine U8 (fun mm2 T st9=> ∃(k:Nat) (okb:Bool),mm2=w.length-k∧Jm [(0,.ptr g 0 0),(2,.ptr c2 0 0),(4,.sl c9 0 0 18 1),(5,.int .i64 (((i:Nat):Int))),(6,.bool okb),(7,.int .i64 (((k:Nat):Int)))] T∧Mem st.h.get st.n [g] st9 [(c9,0,[.str [60,61,62],.str [61,62],.str [60,61],.str [126,61],.str [61],.str [126],.str [60],.str [38],.str [124],.str [40],.str [41],.str [123],.str [125],.str [44],.str [59],.str [58],.str [43],.str [92]]),(c2,0,[.int .i64 0,.str [],.int .i64 0,.int .i64 0]),(g,0,[.str l,ks,.int .i64 (JE bad),.int .i64 (((n:Nat):Int))])]∧k≤w.length∧Vv (L.drop n) w=(okb&&Vv (L.drop (n+k)) (w.drop k))) (fun mm2 T st9 hI=>?_) _ _ _ ⟨0,true,rfl,(.cons (K _ _ rfl) (.cons (K _ _ rfl) (.cons (K _ _ rfl) (.cons (K _ _ rfl) (.cons (K _ _ rfl) (.cons (K _ _ rfl) .nil)))))),M.less (.refl _),(Nat.zero_le _),rfl⟩;obtain⟨k,okb,rfl,K,M,hk,hf2⟩:=hI;refine Qg 3 K M ?_;intro _ K;obtain⟨x19,m19,f19,q19,_,la19,lo19,lp19⟩:=(J1.own (X:=[]) (z:=1) (ls:=Xq.map fun w=>[AV.str w]) (M.Qp (k:=0) rfl) (by simp) (by simp) (by decide)).load (i:=i) (cs:=[.str w]) (by rw[List.getElem?_map,hw];rfl);refine o1 K (Qr JK (congrArg some q19) rfl (by omega)) rfl fun _ K=>o1 K (Qx rfl (lo19 _ 0 _ JI rfl)) rfl fun _ K=>o1 K (X3 UI rfl rfl) rfl fun _ K=>?_;refine Qg 1 K M ?_;intro _ K;refine Qn (K.QR rfl) (fun h22=>?_) (fun h22=>?_)
   ·replace h22:=of_decide_eq_true h22;refine Qg 1 K M ?_;intro _ K;refine oB K (Qb rfl) rfl fun b26 _ e26 K=>?_;cases b26
    ·refine Qg 13 K M ?_;intro _ K;refine o1 K (Jn rfl rfl (by omega) (by omega)) rfl fun _ K=>o1 K (QM rfl) rfl fun _ K=>Q5 ?_;exact⟨_,(by omega),k+1,false,rfl,(.cons (K _ _ rfl) (.cons (K _ _ rfl) (.cons (K _ _ rfl) (.cons (K _ _ rfl) (.cons (K _ _ rfl) (.cons (K _ _ rfl) .nil)))))),M.less (.refl _),(by omega),(by first|(rw[hf2,FU hb34,←Bool.and_assoc];rfl)|(rw[hf2,e26];rfl)|(rw[hf2,FU hb34,e26];rfl))⟩
    ·refine Qg 4 K M ?_;intro _ K;obtain⟨x31,m31,f31,q31,_,la31,lo31,lp31⟩:=(J1.own (X:=[]) (z:=1) (ls:=Xq.map fun w=>[AV.str w]) (M.Qp (k:=0) rfl) (by simp) (by simp) (by decide)).load (i:=i) (cs:=[.str w]) (by rw[List.getElem?_map,hw];rfl);refine og K rfl rfl (Qr JK (congrArg some q31) rfl (by omega)) rfl fun _ K=>og K rfl rfl (Qx rfl (lo31 _ 0 _ JI rfl)) rfl fun _ K=>og K rfl rfl (Qb rfl) rfl fun _ K=>?_;obtain⟨b34,hb34⟩: ∃b,w[k]? =some b:=⟨_,List.getElem?_eq_getElem (by omega)⟩;have hs34:=(KQ hw).2 _ _ hb34;refine og K rfl rfl (Sx (j:=k) UI rfl rfl hb34) rfl fun _ K=>og K rfl rfl (Ch (c:=(b34:Int)) BB W7 rfl (IntWalk.i32_in _ (by omega))) rfl fun _ K=>?_;obtain⟨v36,st36,ev36,rfl,q36⟩:=GK M.fresh (h.next (M.Qp (k:=2) rfl) (h.run.mem M (by simp)) (by omega)) k (by omega) (b34:Int);refine og K rfl rfl (Qc rfl ev36) rfl fun _ K=>?_;replace M:=M.quiet q36;refine Qg 3 K M ?_;intro _ K;refine o1 K (Jn rfl rfl (by omega) (by omega)) rfl fun _ K=>o1 K (QM rfl) rfl fun _ K=>Q5 ?_;exact⟨_,(by omega),k+1,(Ia L (n+k) (b34:Int)),rfl,(.cons (K _ _ rfl) (.cons (K _ _ rfl) (.cons (K _ _ rfl) (.cons (K _ _ rfl) (.cons (K _ _ rfl) (.cons (K _ _ rfl) .nil)))))),M.less (.refl _),(by omega),(by first|(rw[hf2,FU hb34,←Bool.and_assoc];rfl)|(rw[hf2,e26];rfl)|(rw[hf2,FU hb34,e26];rfl))⟩
   ·replace h22:=of_decide_eq_false h22;refine Uc ?_
    exact⟨_,(.cons (K _ _ rfl) (.cons (K _ _ rfl) (.cons (K _ _ rfl) (.cons (K _ _ rfl) (.cons (K _ _ rfl) .nil))))),M.less (.refl _),(by rw[hf2,show w.drop k=[]from List.drop_eq_nil_of_le (by omega)];cases L.drop (n+k)<;>simp[Vv])⟩
  ·obtain⟨okb,K,M,hfit⟩:=hJ;refine Qg 1 K M ?_;intro _ K;refine Qn (K.QR rfl) (fun h38=>?_) (fun h38=>?_)
   ·refine Qq ?_;refine Jk (l:=[(4,0),(5,0),(0,0),(1,0),(2,0),(3,1),(6,0),(7,0),(8,0)]) (by kernel_rfl) ?_;refine d1 rfl K (Qb rfl) rfl rfl fun _ K=>?_;obtain⟨v44,st44,ev44,rfl,q44⟩:=Rp M.fresh (h.next (M.Qp (k:=2) rfl) (h.run.mem M (by simp)) (by omega)) (by omega);refine dA rfl K (Qc rfl ev44) rfl rfl fun _ K=>?_;have Mp:=M;replace M:=M.quiet q44;refine d1 rfl K (Qb rfl) rfl rfl fun _ K=>d1 rfl K (Qb rfl) rfl rfl fun _ K=>?_;obtain⟨x41,m41,f41,q41,_,la41,lo41,lp41,la'41,lo'41,lp'41⟩:=J1.xk (J1.own (X:=[]) (z:=1) (ls:=Xq.map fun w=>[AV.str w]) (M.Qp (k:=0) rfl) (by simp) (by simp) (by decide)) (J1.own (X:=[]) (z:=1) (ls:=Xq.map fun w=>[AV.str w]) (Mp.Qp (k:=0) rfl) (by simp) (by simp) (by decide)) (i:=i) (cs:=[.str w]) (by rw[List.getElem?_map,hw];rfl);refine d1 rfl K (Qr JK (congrArg some q41) rfl (by omega)) rfl rfl fun _ K=>?_;refine QZ rfl K rfl (lo41 _ 0 _ JI rfl) (lo'41 _ 0 _ JI rfl) (Ub rfl) rfl (by decide) fun _ K=>?_;refine d1 rfl K (Qz Zu rfl rfl) rfl rfl fun _ K=>?_;refine LK rfl K M Zq (by decide) fun c8 _ _ K M=>?_;have Mp:=M;refine JX (k:=0) rfl K M rfl rfl rfl An rfl rfl rfl fun _ M=>?_;refine J0 ?_;show W _ _ _ _ _ _ _;refine Qq ?_;refine Jk (l:=[(0,0),(1,0),(2,0),(3,0),(4,0),(5,0),(6,0),(7,0),(8,0),(9,0),(10,0),(11,0),(12,0),(13,0)]) (by kernel_rfl) ?_;refine d1 rfl K (Qb rfl) rfl rfl fun _ K=>d1 rfl K (Qb rfl) rfl rfl fun _ K=>d1 rfl K (JN rfl rfl) rfl rfl fun _ K=>d1 rfl K (Qf Jq rfl) rfl rfl fun _ K=>d1 rfl K (Qx rfl (M.load (k:=3) rfl (Qk QI rfl))) rfl rfl fun _ K=>d1 rfl K (Qb rfl) rfl rfl fun _ K=>d1 rfl K (Qb rfl) rfl rfl fun _ K=>?_;obtain⟨x53,m53,f53,q53,_,la53,lo53,lp53⟩:=(J1.own (X:=[]) (z:=1) (ls:=Xq.map fun w=>[AV.str w]) (M.Qp (k:=1) rfl) (by simp) (by simp) (by decide)).load (i:=i) (cs:=[.str w]) (by rw[List.getElem?_map,hw];rfl);refine d1 rfl K (Qr JK (congrArg some q53) rfl (by omega)) rfl rfl fun _ K=>d1 rfl K (Qx rfl (lo53 _ 0 _ JI rfl)) rfl rfl fun _ K=>d1 rfl K (X3 UI rfl rfl) rfl rfl fun _ K=>d1 rfl K (Jn rfl rfl (by omega) (by omega)) rfl rfl fun _ K=>d1 rfl K (JN rfl rfl) rfl rfl fun _ K=>d1 rfl K (Qf Jq rfl) rfl rfl fun _ K=>?_;refine JX (k:=3) rfl K M rfl rfl rfl DD rfl rfl rfl fun _ M=>?_;refine J0 ?_;show W _ _ _ _ _ _ _;refine au 3 K M ?_;intro _ _ K _ M;refine Qe ⟨.inr rfl,_,(YC (Uk K rfl (M.load (k:=2) rfl (QG UF rfl))) (QY K rfl)),?_⟩
    have hsg:OO (L.drop n)=some w:=by rw[hs,Gl hw,if_pos (by rw[hfit,h38])]
    have hle2:=qA w _ (by rw[hfit,h38]);rw[List.length_drop]at hle2;refine⟨by simp only[Ff,hsg],M.U7,?_⟩;simp only[Ff,hsg];exact h.next (M.Qp (k:=3) rfl) (h.run.mem M (by simp)) (by omega)
   ·refine Qg 1 K M ?_;intro _ K;refine o1 K (Jn rfl rfl (by omega) (by omega)) rfl fun _ K=>o1 K (QM rfl) rfl fun _ K=>Q5 ?_;exact⟨_,(by omega),i+1,rfl,(.cons (K _ _ rfl) (.cons (K _ _ rfl) (.cons (K _ _ rfl) (.cons (K _ _ rfl) .nil)))),M.less (.refl _),(by omega),(by rw[hs,Gl hw,if_neg (by rw[hfit,h38];decide)])⟩
 ·replace h13:=of_decide_eq_false h13;refine Uc ?_;show W _ _ _ _ _ _ _;refine Qq<|Qh<|o1 K (Qz Zu rfl rfl) rfl fun _ K=>?_;refine au 2 K M ?_;intro _ _ K _ M;refine Qe ⟨.inr rfl,_,(YC (Uk K rfl (M.load (k:=1) rfl (QG UF rfl))) (QY K rfl)),?_⟩
  have hsg:OO (L.drop n)=none:=by rw[hs,show Xq.drop i=[]from List.drop_eq_nil_of_le (by show 18≤i;omega)];rfl
  refine⟨by simp only[Ff,hsg],M.U7,?_⟩;simp only[Ff,hsg];exact h.next (M.Qp (k:=2) rfl) (h.run.mem M (by simp)) (by omega)

theorem Si{st:St}(hf:Q6 st){g:Nat}{l:List Nat}{ks:AV}{L:List (Nat×Nat)}{bad:Option Nat}{n:Nat}(h:Oh st.h.get g l ks L bad n)(hn:n<L.length): ∃v st',Ev Tryz.prog Ja 79 [.ptr g 0 0] st v st'∧v=.tup [.agg (WG l bad L n).1,.bool (WG l bad L n).2.1]∧Ag [g] st st'∧Oh st'.h.get g l ks L bad (n+(WG l bad L n).2.2):=by
 have hrl:= @Wq L;have hfew:=h.few;have hle:=h.le;have hsz:=h.size;refine QC rfl Tryz.func79 rfl Tryz.ntmps79 rfl fun T hT=>?_;have K:Jm [(0,_)] T:=(.cons (hT 0) .nil);have M:=Mem.UP hf h.row;refine au 3 K M ?_;intro c2 _ _ K _ M;refine oQ K M (Ro M.fresh (h.next (M.Qp (k:=1) rfl) (h.run.mem M (by simp)) (by omega))) rfl rfl fun _ _ K M=>?_;refine Qg 2 K M ?_;intro _ K;refine Qn (K.QR rfl) (fun h6=>?_) (fun h6=>?_)
 ·replace h6:=of_decide_eq_true h6;refine Qg 1 K M ?_;intro _ K;obtain⟨v9,st9,ev9,rfl,q9,r9⟩:=My M.fresh (h.next (M.Qp (k:=1) rfl) (h.run.mem M (by simp)) (by omega)) (by omega) ‹_›;refine o1 K (Qc rfl ev9) rfl fun _ K=>?_;replace M:=M.JP (k:=1) rfl q9 r9.row;refine au 4 K M ?_;intro _ _ K _ M;refine Qe ⟨.inr rfl,_,(YC (Uk K rfl (M.load (k:=0) rfl (QG UF rfl))) (QY K rfl)),?_⟩;exact⟨(by rw[WG,if_pos ‹Jr L n=1›];rfl),M.U7,(by rw[WG,if_pos ‹Jr L n=1›];exact h.next (M.Qp (k:=1) rfl) (h.run.mem M (by simp)) r9.le)⟩
 ·replace h6:=of_decide_eq_false h6;refine Qg 2 K M ?_;intro _ K;refine Qn (K.QR rfl) (fun h12=>?_) (fun h12=>?_)
  ·replace h12:=of_decide_eq_true h12;refine Qg 1 K M ?_;intro _ K;obtain⟨v15,st15,ev15,rfl,q15,r15⟩:=DI M.fresh (h.next (M.Qp (k:=1) rfl) (h.run.mem M (by simp)) (by omega)) (by omega);refine o1 K (Qc rfl ev15) rfl fun _ K=>?_;replace M:=M.JP (k:=1) rfl q15 r15.row;refine au 4 K M ?_;intro _ _ K _ M;refine Qe ⟨.inr rfl,_,(YC (Uk K rfl (M.load (k:=0) rfl (QG UF rfl))) (QY K rfl)),?_⟩;exact⟨(by rw[WG,if_neg ‹¬Jr L n=1›,if_pos ‹Jr L n=2›];rfl),M.U7,(by rw[WG,if_neg ‹¬Jr L n=1›,if_pos ‹Jr L n=2›];exact h.next (M.Qp (k:=1) rfl) (h.run.mem M (by simp)) r15.le)⟩
  ·replace h12:=of_decide_eq_false h12;refine Qg 1 K M ?_;intro _ K;obtain⟨sk,stx,sp,hsc⟩:=KS l bad L n;obtain⟨v19,st19,ev19,rfl,q19,r19⟩:=hsc▸Mw M.fresh (h.next (M.Qp (k:=1) rfl) (h.run.mem M (by simp)) (by omega)) (by omega);refine o1 K (Qc rfl ev19) rfl fun _ K=>?_;replace M:=M.JP (k:=1) rfl q19 r19.row;refine au 4 K M ?_;intro _ _ K _ M;refine Qe ⟨.inr rfl,_,(YC (Uk K rfl (M.load (k:=0) rfl (QG UF rfl))) (QY K rfl)),?_⟩;exact⟨(by rw[WG,if_neg ‹¬Jr L n=1›,if_neg ‹¬Jr L n=2›,hsc]),M.U7,(by rw[WG,if_neg ‹¬Jr L n=1›,if_neg ‹¬Jr L n=2›];exact h.next (M.Qp (k:=1) rfl) (h.run.mem M (by simp)) r19.le)⟩
end Go.Proofs.YtadjjadimlkkgaaGreatDoor
end
section
namespace Go.Proofs.YtadjjadimlkkgaaGreatDoor
open Go Go.RowKit

set_option maxRecDepth 100000 in
set_option maxHeartbeats 4000000 in
theorem qV(n m b0 b1 b2 b3 c1 c2 c3:Nat)(hmn:m≤n)(hw:(Lib.decodeN n b0 b1 b2 b3).2≤m)(h1:1<m→c1=b1)(h2:2<m→c2=b2)(h3:3<m→c3=b3):Lib.decodeN m b0 c1 c2 c3=Lib.decodeN n b0 b1 b2 b3:=by
 unfold Lib.decodeN at hw ⊢
 by_cases a0:b0<128
 ·rw[if_pos a0,if_pos a0]
 rw[if_neg a0]at hw;rw[if_neg a0,if_neg a0]
 by_cases a1:b0/32=6∧(1<n∧b1/64=2)
 ·rw[if_pos a1]at hw;rw[if_pos a1]
  by_cases hm:1<m
  ·rw[h1 hm,if_pos ⟨a1.1,hm,a1.2.2⟩]
  ·rw[if_neg (fun h=>hm h.2.1),if_neg (by omega),if_neg (by omega)]
   split at hw
   ·exfalso;simp only at hw;omega
   ·rename_i h;rw[if_neg h]
 rw[if_neg a1]at hw;rw[if_neg a1]
 by_cases a2:b0/16=14∧(1<n∧b1/64=2)∧(2<n∧b2/64=2)
 ·rw[if_pos a2]at hw;rw[if_pos a2,if_neg (by omega)]
  by_cases hm:2<m
  ·rw[h1 (by omega),h2 hm,if_pos ⟨a2.1,⟨by omega,a2.2.1.2⟩,hm,a2.2.2.2⟩]
  ·rw[if_neg (fun h=>hm h.2.2.1),if_neg (by omega)]
   split at hw
   ·exfalso;simp only at hw;omega
   ·rename_i h;rw[if_neg h]
 rw[if_neg a2]at hw;rw[if_neg a2]
 by_cases a3:b0/8=30∧(1<n∧b1/64=2)∧(2<n∧b2/64=2)∧(3<n∧b3/64=2)
 ·rw[if_pos a3]at hw;rw[if_pos a3,if_neg (by omega),if_neg (by omega)]
  by_cases hm:3<m
  ·rw[h1 (by omega),h2 (by omega),h3 hm,if_pos ⟨a3.1,⟨by omega,a3.2.1.2⟩,⟨by omega,a3.2.2.1.2⟩,hm,a3.2.2.2.2⟩]
  ·rw[if_neg (fun h=>hm h.2.2.2.1)]
   split at hw
   ·exfalso;simp only at hw;omega
   ·rename_i h;rw[if_neg h]
 rw[if_neg a3];rw[if_neg,if_neg,if_neg]
 ·intro h;exact a3 ⟨h.1,⟨by omega,by rw[←h1 h.2.1.1];exact h.2.1.2⟩,⟨by omega,by rw[←h2 h.2.2.1.1];exact h.2.2.1.2⟩,by omega,by rw[←h3 h.2.2.2.1];exact h.2.2.2.2⟩
 ·intro h;exact a2 ⟨h.1,⟨by omega,by rw[←h1 h.2.1.1];exact h.2.1.2⟩,by omega,by rw[←h2 h.2.2.1];exact h.2.2.2⟩
 ·intro h;exact a1 ⟨h.1,by omega,by rw[←h1 h.2.1];exact h.2.2⟩
theorem L8(s:ByteArray)(a b k:Nat)(h:a+k<b)(hb:b≤s.size):(s.extract a b).get! k=s.get! (a+k):=by
 have hz:(s.extract a b).size=b-a:=by simp;omega
 rw[get_eq _ _ (by omega),get_eq _ _ (by omega)];simp[ByteArray.data_extract]
theorem Pz(s:ByteArray)(a b p:Nat)(h1:a≤p)(h2:p<b)(h3:b≤s.size)(hw:p+(Utf8.decode s p).2≤b):Utf8.decode (s.extract a b) (p-a)=Utf8.decode s p:=by
 have hz:(s.extract a b).size=b-a:=by simp;omega
 have hw':=hw;rw[Lib.decode_at]at hw' ⊢;rw[Lib.decode_at s p,hz]
 have e0:(s.extract a b).get! (p-a)=s.get! p:=by rw[L8 s a b _ (by omega) h3];congr 1;omega
 rw[e0];refine qV _ _ _ _ _ _ _ _ _ (by omega) (by omega) (fun h=>?_) (fun h=>?_) (fun h=>?_)
 ·rw[L8 s a b _ (by omega) h3];congr 2;omega
 ·rw[L8 s a b _ (by omega) h3];congr 2;omega
 ·rw[L8 s a b _ (by omega) h3];congr 2;omega
theorem Th(s:ByteArray)(fin a b:Nat)(hb:b≤s.size): ∀(R:List (Nat×Nat)) (p m f:Nat),H3 s fin p R→m≤R.length→a≤p→QK fin R m=b→m≤f→X5 (s.extract a b) f (p-a)=m:=by
 have hz:(s.extract a b).size=b-a:=by simp;omega
 intro R
 induction R with
 |nil=>
  intro p m f hc hm hap hpb hf
  obtain rfl:m=0:=by simpa using hm
  have hp:p=fin:=hc;have hpb:fin=b:=hpb;rw[F3 _ _ _ (by omega)]
 |cons x R ih=>
  intro p m f hc hm hap hpb hf;obtain⟨c,q⟩:=x
  cases m with
  |zero=>
   have hpb:q=b:=hpb;have:=hc.1;rw[F3 _ _ _ (by omega)]
  |succ m=>
   obtain⟨hq,hlt,_,_,hc'⟩:=hc
   have hpb':QK fin R m=b:=by rw[←hpb];simp[QK]
   have hm':m≤R.length:=by simpa using hm
   have hpl:=(Ni s fin _ R hc' 0 m (Nat.zero_le _)).1;rw[Wr s fin _ R hc',hpb']at hpl;have hw:=V5 s p hlt;obtain⟨f,rfl⟩: ∃f',f=f'+1:=⟨f-1,by omega⟩;rw[IU _ _ _ (by omega),Pz s a b p hap (by omega) hb hpl];have:=ih (p+(Utf8.decode s p).2) m f hc' hm' (by omega) hpb' (by omega);rw[show p-a+(Utf8.decode s p).2=p+(Utf8.decode s p).2-a by omega,this]
theorem P6(s:ByteArray)(n m:Nat)(h:n+m≤(each s).1.length):count (s.extract (JM s (each s).2 (each s).1 n) (JM s (each s).2 (each s).1 (n+m)))=m:=by
 have hc:=Ij s;have hd:=Ea s _ n _ 0 hc.1;have h1:=Zw s n (n+m) (by omega)
 have hz:(s.extract (JM s (each s).2 (each s).1 n) (JM s (each s).2 (each s).1 (n+m))).size=JM s (each s).2 (each s).1 (n+m)-JM s (each s).2 (each s).1 n:=by simp;omega
 have hge:m≤JM s (each s).2 (each s).1 (n+m)-JM s (each s).2 (each s).1 n:=by
  clear hz h1
  induction m with
  |zero=>omega
  |succ m ih=>
   have:=ih (by omega);have hm:=Zw s n (n+m) (by omega)
   have hlt:JM s (each s).2 (each s).1 (n+m)<JM s (each s).2 (each s).1 (n+(m+1)):=by
    have hdd:=Ea s _ (n+m) _ 0 hc.1
    have hl:n+m<(each s).1.length:=by omega
    rw[Vk _ _ hl]at hdd;obtain⟨_,hlt,_,_,hc'⟩:=hdd;have e1:=Wr s _ _ _ hc';rw[Zv,Nat.add_zero]at e1;have hw:=V5 s _ hlt;show QK _ _ (n+m)<QK _ _ (n+m+1);omega
   omega
 unfold count;rw[hz];have:=Th s (Jx s (each s).2) (JM s (each s).2 (each s).1 n) (JM s (each s).2 (each s).1 (n+m)) h1.2 ((each s).1.drop n) _ m (JM s (each s).2 (each s).1 (n+m)-JM s (each s).2 (each s).1 n) hd (by rw[List.length_drop];omega) (Nat.le_refl _) (Zv _ _ _ _) hge;rw[show QK (Jx s (each s).2) (each s).1 n-JM s (each s).2 (each s).1 n=0 from Nat.sub_self _]at this;exact this
theorem uw: ∀(r:List (Nat×Nat)) (a:Nat),Ux 100 (min a 100) r=min (Ux 1000 a r) 100:=by
 intro r
 induction r with
 |nil=>intro a;rfl
 |cons x r ih=>
  intro a;obtain⟨c,q⟩:=x;rw[Ux,Ux]
  split
  ·rw[←ih]
   congr 1
   omega
  ·rfl
theorem DF: ∀sg∈X7,∀b r,sg.data.toList=b::r→QW (b.toNat:Int)=4:=by
 have h: ∀sg∈X7,(match sg.data.toList with|b::r=>decide (QW (b.toNat:Int)=4)|[]=>true)=true:=by decide+kernel
 intro sg hs b r e;have:=h sg hs;rw[e]at this;exact of_decide_eq_true this
theorem Sc{c a:Nat}{r:List (Nat×Nat)}(h:QW (c:Int)≠4):WC ((c,a)::r)=none:=by
 unfold WC;rw[List.find?_eq_none];intro sg hs hf;have hz:=(H5 sg hs).1
 cases he:sg.data.toList with
 |nil=>
  have:sg.size=0:=by rw[←ByteArray.size_data,←Array.length_toList,he];rfl
  omega
 |cons b l=>
  rw[he,Er,Bool.and_eq_true,decide_eq_true_iff]at hf;exact h (by rw[hf.1];exact DF sg hs b l he)

theorem Bytes.sub{l r:List Nat}(h:Bytes l)(hs: ∀x∈r,x∈l):Bytes r:=fun x hx=>h x (hs x hx)
theorem OF{l:List Nat}(h:Bytes l)(a b:Nat):UO ((bytesOf l).extract a b)=(l.drop a).take (b-a):=by
 rw[AR,ZT (h.sub fun x hx=>List.mem_of_mem_drop (List.mem_of_mem_take hx))]
theorem TP{l:List Nat}(hB:Bytes l){n:Nat}(hn:n<(each (bytesOf l)).1.length):
  (WG l (each (bytesOf l)).2 (each (bytesOf l)).1 n).2.1=(VI (bytesOf l) (Jx (bytesOf l) (each (bytesOf l)).2) ((each (bytesOf l)).1.drop n)).ok∧
  ((VI (bytesOf l) (Jx (bytesOf l) (each (bytesOf l)).2) ((each (bytesOf l)).1.drop n)).ok=true→(WG l (each (bytesOf l)).2 (each (bytesOf l)).1 n).1=(VI (bytesOf l) (Jx (bytesOf l) (each (bytesOf l)).2) ((each (bytesOf l)).1.drop n)).cells∧
   (WG l (each (bytesOf l)).2 (each (bytesOf l)).1 n).2.2=(VI (bytesOf l) (Jx (bytesOf l) (each (bytesOf l)).2) ((each (bytesOf l)).1.drop n)).len):=by
 obtain⟨c,q,h1,h2⟩:=ZG hn;have hcl:Jr (each (bytesOf l)).1 n=QW (c:Int):=Xd h1;have hml:=N3 ((each (bytesOf l)).1.drop n);rw[List.length_drop]at hml;have hcn:=P6 (bytesOf l) n (Uy ((each (bytesOf l)).1.drop n)) (by omega)
 have hp0:QK (Jx (bytesOf l) (each (bytesOf l)).2) ((each (bytesOf l)).1.drop n) 0=QK (Jx (bytesOf l) (each (bytesOf l)).2) (each (bytesOf l)).1 n:=by rw[Zv,Nat.add_zero]
 have hpm: ∀m,QK (Jx (bytesOf l) (each (bytesOf l)).2) ((each (bytesOf l)).1.drop n) m=QK (Jx (bytesOf l) (each (bytesOf l)).2) (each (bytesOf l)).1 (n+m):=fun m=>Zv _ _ _ _;have hcn':count ((bytesOf l).extract (QK (Jx (bytesOf l) (each (bytesOf l)).2) (each (bytesOf l)).1 n) (QK (Jx (bytesOf l) (each (bytesOf l)).2) (each (bytesOf l)).1 (n+Uy ((each (bytesOf l)).1.drop n))))=Uy ((each (bytesOf l)).1.drop n):=hcn;have hisC:Ia (each (bytesOf l)).1 n 48=decide ((c:Int)=48):=E2 h1;rw[Rc _ _ _ _ hn]
 have hgn:(each (bytesOf l)).1[n]=(c,q):=by
  obtain⟨_,h⟩:=List.getElem?_eq_some_iff.1 h1;exact h
 rw[hgn];simp only;unfold WG y7 xb Ff;rw[hcl];have hc0:=uw ((each (bytesOf l)).1.drop n) 0;rw[show min 0 100=0 from rfl]at hc0;have hsg:=Mo ((each (bytesOf l)).1.drop n)
 generalize (each (bytesOf l)).1.drop n=r at *
 by_cases k1:QW (c:Int)=1
 ·rw[if_pos k1,if_pos k1];unfold Gb;rw[hp0,hpm,hcn',RL,OF hB];refine⟨?_,fun _=>⟨?_,rfl⟩⟩
  ·simp only;rw[Bool.eq_iff_iff,decide_eq_true_iff,decide_eq_true_iff];omega
  ·unfold Yw.cells;simp only[OF hB];rfl
 ·rw[if_neg k1,if_neg k1]
  by_cases k2:QW (c:Int)=2
  ·rw[if_pos k2,if_pos k2];unfold S8;rw[hp0,hc0,hisC];refine⟨?_,fun hok=>⟨?_,rfl⟩⟩
   ·simp only
    have e1:decide (((Ux 1000 0 r:Nat):Int)≤99)=decide (min (Ux 1000 0 r) 100≤99):=by
     rw[Bool.eq_iff_iff,decide_eq_true_iff,decide_eq_true_iff];omega
    have hd1:1≤ZN r:=by rw[h2,ZN,if_pos (Zo.1 k2)];omega
    have e2:(!(decide ((c:Int)=48)&&decide (1<((ZN r:Nat):Int))))=(decide (c≠48)||decide (ZN r=1)):=by
     rw[Bool.eq_iff_iff];simp only[Bool.not_eq_true',Bool.and_eq_false_iff,decide_eq_false_iff_not,Bool.or_eq_true,decide_eq_true_iff];omega
    rw[e1,e2]
   ·have hok:(decide (min (Ux 1000 0 r) 100≤99)&&_)=true:=hok;rw[Bool.and_eq_true,decide_eq_true_iff]at hok;unfold Yw.cells
    have e3:min (Ux 1000 0 r) 100=Ux 1000 0 r:=by omega
    simp only[e3];rfl
  ·rw[if_neg k2,if_neg k2];rw[hsg]
   by_cases k4:QW (c:Int)=4
   ·rw[if_pos k4];unfold LY
    cases hs:WC r with
    |none=>exact⟨rfl,fun h=>by cases h⟩
    |some sg=>
     refine⟨rfl,fun _=>⟨?_,?_⟩⟩
     ·unfold Yw.cells;simp only[Option.map_some,hp0];rfl
     ·simp only[Option.map_some];unfold UO;rw[List.length_map,Array.length_toList,ByteArray.size_data]
   ·rw[if_neg k4,h2,Sc k4];exact⟨rfl,fun h=>by cases h⟩
end Go.Proofs.YtadjjadimlkkgaaGreatDoor
end
section
namespace Go.Proofs.YtadjjadimlkkgaaGreatDoor
open Go Go.RowKit

theorem uS{st:St}(hf:Q6 st)(l:List Nat)(hl:l.length≤2000): ∃v st',Ev Tryz.prog Ja 76 [.str l] st v st'∧ ∃ks,v=.tup [ks,.int .i64 (JE (each (bytesOf l)).2)]∧Dv st st' 2 ks ((each (bytesOf l)).1.map Vc)∧Qt st st':=by
 have hlen:=EZ (bytesOf l) (bytesOf l).size 0;have hlen:(each (bytesOf l)).1.length≤(bytesOf l).size:=hlen;rw[J9]at hlen
 obtain⟨ks,st',h1,h2,h3⟩:=Gp (P:=Tryz.prog) (G:=Ja) (f:=76) (F:=BS) (z:=2) (ls:=(each (bytesOf l)).1.map Vc) (rest:=[.int .i64 (JE (each (bytesOf l)).2)]) rfl hf (args:=[.str l]) (fun cs hc=>by
  obtain⟨x,_,rfl⟩:=List.mem_map.1 hc;rfl) (by simp;omega) (by
  unfold BS;simp only[Nat.ble_eq_true_of_le (show l.length≤100000 by omega),Ji,List.length_map]
  rfl)
 exact⟨_,st',h1,ks,rfl,h2,h3⟩
theorem RP{st:St}(hf:Q6 st)(l:List Nat)(hb:(tokens (bytesOf l)).1.length≤1000000): ∃v st',Ev Tryz.prog Ja 72 [.str l] st v st'∧ ∃ks,v=.tup [ks,.int .i64 (tokens (bytesOf l)).2.1,.int .i64 (tokens (bytesOf l)).2.2]∧Dv st st' 4 ks ((tokens (bytesOf l)).1.map Yw.cells)∧Qt st st':=by
 obtain⟨ks,st',h1,h2,h3⟩:=Gp (P:=Tryz.prog) (G:=Ja) (f:=72) (F:=I5) (z:=4) (ls:=(tokens (bytesOf l)).1.map Yw.cells) (rest:=[.int .i64 (tokens (bytesOf l)).2.1,.int .i64 (tokens (bytesOf l)).2.2]) rfl hf (args:=[.str l]) (fun cs hc=>by
  obtain⟨x,_,rfl⟩:=List.mem_map.1 hc;rfl) (by simpa using hb) (by
  unfold I5;simp only[List.length_map]
  rfl)
 exact⟨_,st',h1,ks,rfl,h2,h3⟩
theorem qa(s:ByteArray)(fin:Nat): ∀(f:Nat) (r:List (Nat×Nat)) (l:List Yw),(WO s fin f r).1=some l→l.length≤r.length:=by
 intro f
 induction f with
 |zero=>intro r l h;injection h with h;subst h;simp
 |succ f ih=>
  intro r l h
  cases r with
  |nil=>injection h with h;subst h;simp
  |cons x r=>
   rw[WO]at h
   split at h
   ·rename_i hok;have hp:=LP s fin (x::r) hok;simp only at h
    cases hx:(WO s fin f (((x::r).drop (VI s fin (x::r)).len).drop (Jl false ((x::r).drop (VI s fin (x::r)).len)))).1 with
    |none=>rw[hx]at h;cases h
    |some l'=>
     rw[hx]at h
     injection h with h
     subst h;have:=ih _ _ hx;simp only[List.length_drop,List.length_cons]at this ⊢;omega
   ·cases h
theorem LO(s:ByteArray):(tokens s).1.length≤2001:=by
 unfold tokens
 split
 ·simp
 ·rename_i hs;have hlen:=EZ s s.size 0;have hlen:(each s).1.length≤s.size:=hlen
  split
  ·simp
  ·rename_i l x h
   split
   ·simp
   ·have:=qa _ _ _ _ l (by rw[h]);simp only[List.length_drop,List.length_append,List.length_cons,List.length_nil]at this ⊢;omega
theorem DH(l:List Nat)(bad:Option Nat)(L:List (Nat×Nat))(n:Nat): ∃k t m p,(WG l bad L n).1=[.int .i64 k,.str t,.int .i64 m,.int .i64 p]:=by
 unfold WG
 split
 ·exact⟨_,_,_,_,rfl⟩
 ·split
  ·exact⟨_,_,_,_,rfl⟩
  ·obtain⟨a,b,c,h⟩:=KS l bad L n;exact⟨a,b,0,c,h⟩
theorem Oh.new{st:St}{g:Nat}{l:List Nat}{ks:AV}(hl:l.length≤2000)(hr:JA st.h.get g 0 [.str l,ks,.int .i64 (JE (each (bytesOf l)).2),.int .i64 ((0:Nat):Int)])(hk:J1 st.h.get [g] 2 ((each (bytesOf l)).1.map Vc) ks):Oh st.h.get g l ks (each (bytesOf l)).1 (each (bytesOf l)).2 0:=by
 have hlen:=EZ (bytesOf l) (bytesOf l).size 0;have hlen:(each (bytesOf l)).1.length≤(bytesOf l).size:=hlen;rw[J9]at hlen;refine⟨hr,hk,by omega,Nat.zero_le _,by omega,fun i j hij=>?_⟩;have:=Zw (bytesOf l) i j hij;rw[J9]at this;exact this
theorem Acc.apart{h0:Hp}{n0 n1 z:Nat}{X:List Nat}{st:St}{L A B:List (Nat×Nat×List AV)}{ks:AV}{ls:List (List AV)}(hM:Mem h0 n0 X st (L++(A++B)))(hA:Acc n1 z A ks ls){k c m:Nat}{l:List AV}(hk:L[k]? =some (c,m,l)):J1 st.h.get [c] z ls ks:=by
 have r:=hM.Lv hA
 cases hA with
 |none=>exact .nil _ _ _
 |own hc hz hb=>
  rename_i c' m';refine J1.own (hM.row c' m' _ (by simp)) hz ?_ (by omega);simp only[List.mem_singleton];intro e;subst e;have hn:=hM.nodup;rw[List.map_append,List.nodup_append]at hn;exact hn.2.2 c' (List.mem_map.2 ⟨_,List.mem_of_getElem? hk,rfl⟩) c' (by simp) rfl
theorem ja(x:Option (List Yw)×Nat):comb [] x=x:=by
 obtain⟨y1,y2⟩:=x
 cases y1<;>simp[comb]
theorem BC{s:ByteArray}(h:2000<s.size):tokens s=([],0,3):=by rw[tokens,if_pos h]
theorem Rb{s:ByteArray}{p:Nat}(h: ¬2000<s.size)(hx:WO s (Jx s (each s).2) ((each s).1.length+1) ((each s).1.drop (Jl false (each s).1))=(none,p)):tokens s=([],p,2):=by
 rw[tokens,if_neg h,hx]
theorem PZ{s:ByteArray}{a:List Yw}{p q:Nat}(h: ¬2000<s.size)(hx:WO s (Jx s (each s).2) ((each s).1.length+1) ((each s).1.drop (Jl false (each s).1))=(some a,p))(hq:(each s).2=some q):tokens s=([],q,2):=by
 rw[tokens,if_neg h,hx];simp only[hq]
theorem Ra{s:ByteArray}{a:List Yw}{p:Nat}(h: ¬2000<s.size)(hx:WO s (Jx s (each s).2) ((each s).1.length+1) ((each s).1.drop (Jl false (each s).1))=(some a,p))(hq:(each s).2=none):tokens s=(a++[AH s],s.size,0):=by
 rw[tokens,if_neg h,hx];simp only[hq]

theorem DG{st:St}(hf:Q6 st)(l:List Nat)(hB:Bytes l): ∃v st',Ev Tryz.prog Ja 34 [.str l] st v st'∧ ∃ks,v=.tup [ks,.int .i64 (tokens (bytesOf l)).2.1,.int .i64 (tokens (bytesOf l)).2.2]∧Dv st st' 4 ks ((tokens (bytesOf l)).1.map Yw.cells)∧Qt st st':=by
 have hEl:(each (bytesOf l)).1.length≤l.length:=by
  have h:=EZ (bytesOf l) (bytesOf l).size 0;have h:(each (bytesOf l)).1.length≤(bytesOf l).size:=h;rw[J9]at h;exact h
 have hmp:((each (bytesOf l)).1.map Vc).length=(each (bytesOf l)).1.length:=by simp
 refine QC rfl Tryz.func34 rfl Tryz.ntmps34 rfl fun T hT=>?_;have K:Jm [(0,_)] T:=(.cons (hT 0) .nil);have M:=Mem.start hf;refine Qg 4 K M ?_;intro _ K;refine o1 K (X3 UI rfl rfl) rfl fun _ K=>?_;refine Qg 1 K M ?_;intro _ K;refine Qn (K.QR rfl) (fun h12=>?_) (fun h12=>?_)
 · replace h12:=of_decide_eq_true h12;refine Qg 3 K M ?_;intro _ K;refine Qe ⟨.inr rfl,_,(Uo (QY K rfl) (QY K rfl) (QY K rfl)),?_⟩;rw[BC (by rw[J9];omega)];exact⟨.nils,rfl,⟨[],.none,fun _ _ _ h=>by cases h⟩,M.qt⟩
 · replace h12:=of_decide_eq_false h12;refine Qg 1 K M ?_;intro _ K;refine o1 K (Qz Hf rfl rfl) rfl fun _ K=>?_;refine J2 K M rfl rfl (by decide) fun c15 _ _ K M=>?_;refine Qg 4 K M ?_;intro _ K;obtain⟨v20,st20,ev20,ks20,rfl,nr20,q20⟩:=uS M.fresh l (by omega);refine o1 K (Qc rfl ev20) rfl fun _ K=>?_;obtain⟨A20,hA20,M⟩:=M.FZ q20 nr20;refine Qg 5 K M ?_;intro _ K;refine FI (k:=0) K M rfl rfl rfl Hl (hA20.cell) rfl fun _ M=>?_;refine au 5 K M ?_;intro _ _ K _ M;obtain⟨v28,st28,ev28,rfl,q28,r28⟩:=BV M.fresh (Oh.new (by omega) (M.Qp (k:=0) rfl) (Acc.apart (L:=[(c15,0,[.str l,ks20,.int .i64 (JE (each (bytesOf l)).2),.int .i64 0])]) (A:=A20) (B:=[]) M hA20 (k:=0) rfl));refine o1 K (Qc rfl ev28) rfl fun _ K=>?_;have hrow28:=r28.row;have hle28:=r28.le;replace M:=M.JP (k:=0) rfl q28 hrow28;refine Q5 ?_;show W _ _ _ _ _ _ _;refine Uw ?_;refine U8 (fun mm1 T st9=> ∃(k f:Nat) (acc:List Yw) (ks:AV) (A:List (Nat×Nat×List AV)),mm1=(each (bytesOf l)).1.length-k∧Jm [(0,.str l),(5,.ptr c15 0 0),(6,ks)] T∧Mem st.h.get st.n [] st9 ((c15,0,[.str l,ks20,.int .i64 (JE (each (bytesOf l)).2),.int .i64 (((k:Nat):Int))])::(A20++(A++[])))∧Acc st.n 4 A ks (acc.map Yw.cells)∧k≤(each (bytesOf l)).1.length∧acc.length≤k∧comb acc (WO (bytesOf l) (Jx (bytesOf l) (each (bytesOf l)).2) f ((each (bytesOf l)).1.drop k))=WO (bytesOf l) (Jx (bytesOf l) (each (bytesOf l)).2) ((each (bytesOf l)).1.length+1) ((each (bytesOf l)).1.drop (Jl false (each (bytesOf l)).1))∧(each (bytesOf l)).1.length<k+f) (fun mm1 T st9 hI=>?_) _ _ _ ⟨0+Jl false ((each (bytesOf l)).1.drop 0),(each (bytesOf l)).1.length+1,[],.nils,[],rfl,(.cons (K _ _ rfl) (.cons (K _ _ rfl) (.cons (K _ _ rfl) .nil))),M.less (.refl _),.none,r28.le,(Nat.zero_le _),(by rw[ja,Nat.zero_add,List.drop_zero]),(by omega)⟩;obtain⟨k,f,acc,ks,A,rfl,K,M,hA,hk,hacc,hinv,hf⟩:=hI;refine Qq<|Qq ?_;refine Jk (l:=[(0,0),(1,0),(2,0),(3,0),(4,0),(5,0),(6,0),(7,0),(8,0),(9,0)]) (by kernel_rfl) ?_;refine d1 rfl K (Qb rfl) rfl rfl fun _ K=>d1 rfl K (JN rfl rfl) rfl rfl fun _ K=>d1 rfl K (Qf Jq rfl) rfl rfl fun _ K=>d1 rfl K (Qx rfl (M.load (k:=0) rfl (Qk QI rfl))) rfl rfl fun _ K=>d1 rfl K (Qb rfl) rfl rfl fun _ K=>d1 rfl K (JN rfl rfl) rfl rfl fun _ K=>d1 rfl K (Qf J6 rfl) rfl rfl fun _ K=>d1 rfl K (Qx rfl (M.load (k:=0) rfl (Qk UA rfl))) rfl rfl fun _ K=>d1 rfl K (Jd Z3 rfl rfl hA20.len) rfl rfl fun _ K=>?_;refine d1 rfl K (Nr rfl rfl) rfl rfl fun _ K=>J0 ?_;show W _ _ _ _ _ _ _;refine Qn (K.QR rfl) (fun h38=>?_) (fun h38=>?_)
   ·replace h38:=of_decide_eq_true h38;refine Qg 1 K M ?_;intro _ K;refine oQ K M (Rp M.fresh (r28.next (M.Qp (k:=0) rfl) (Acc.apart (L:=[(c15,0,[.str l,ks20,.int .i64 (JE (each (bytesOf l)).2),.int .i64 (((k:Nat):Int))])]) (A:=A20) (B:=(A++[])) M hA20 (k:=0) rfl) (by omega)) (by omega)) rfl rfl fun _ _ K M=>?_;refine Qg 2 K M ?_;intro _ K;obtain⟨tk,tt,tm,tp,hsc⟩:=DH l (each (bytesOf l)).2 (each (bytesOf l)).1 k;obtain⟨v45,st45,ev45,rfl,q45,r45⟩:=hsc▸Si M.fresh (r28.next (M.Qp (k:=0) rfl) (Acc.apart (L:=[(c15,0,[.str l,ks20,.int .i64 (JE (each (bytesOf l)).2),.int .i64 (((k:Nat):Int))])]) (A:=A20) (B:=(A++[])) M hA20 (k:=0) rfl) (by omega)) (by omega);refine o1 K (Qc rfl ev45) rfl fun _ K=>?_;have hrow45:=r45.row;have hle45:=r45.le;replace M:=M.JP (k:=0) rfl q45 hrow45;refine au 8 K M ?_;intro c8 _ _ K _ M;refine Qn (K.QR rfl) (fun h49=>?_) (fun h49=>?_)
    ·replace h49:((WG l (each (bytesOf l)).2 (each (bytesOf l)).1 k).2.1)=false:=by simpa using h49
     refine Qg 4 K M ?_;intro _ K;refine Qe ⟨.inr rfl,_,(Uo (QY K rfl) (QY K rfl) (QY K rfl)),?_⟩;obtain⟨f,rfl⟩: ∃f',f=f'+1:=⟨f-1,by omega⟩;obtain⟨te1,te2⟩:=TP hB (n:=k) (by omega);rw[h49]at te1;rw[CT _ _ _ _ _ (by rw[List.length_drop];omega) te1.symm]at hinv;rw[Rb (by rw[J9];omega) hinv.symm,Zv,Nat.add_zero];exact⟨.nils,rfl,⟨[],.none,fun _ _ _ h=>by cases h⟩,M.qt⟩
    ·replace h49:((WG l (each (bytesOf l)).2 (each (bytesOf l)).1 k).2.1)=true:=by simpa using h49
     refine Qg 2 K M ?_;intro _ K;refine YK K M Va Zq rfl rfl rfl rfl rfl fun c53 _ _ K M=>?_;refine V7 (k2:=0) (L:=((c53,0,[.int .i64 tk,.str tt,.int .i64 tm,.int .i64 tp])::(c8,0,[.int .i64 tk,.str tt,.int .i64 tm,.int .i64 tp])::(c15,0,[.str l,ks20,.int .i64 (JE (each (bytesOf l)).2),.int .i64 ((((k+(WG l (each (bytesOf l)).2 (each (bytesOf l)).1 k).2.2):Nat):Int))])::(A20++[]))) (A:=A) (B:=[]) K (Mem.cast (M:=((c53,0,[.int .i64 tk,.str tt,.int .i64 tm,.int .i64 tp])::(c8,0,[.int .i64 tk,.str tt,.int .i64 tm,.int .i64 tp])::(c15,0,[.str l,ks20,.int .i64 (JE (each (bytesOf l)).2),.int .i64 ((((k+(WG l (each (bytesOf l)).2 (each (bytesOf l)).1 k).2.2):Nat):Int))])::(A20++(A++[])))) (M':=((c53,0,[.int .i64 tk,.str tt,.int .i64 tm,.int .i64 tp])::(c8,0,[.int .i64 tk,.str tt,.int .i64 tm,.int .i64 tp])::(c15,0,[.str l,ks20,.int .i64 (JE (each (bytesOf l)).2),.int .i64 ((((k+(WG l (each (bytesOf l)).2 (each (bytesOf l)).1 k).2.2):Nat):Int))])::(A20++[]))++(A++[])) M (by simp only[List.append_assoc,List.cons_append,List.nil_append,List.append_nil])) hA Va rfl rfl rfl rfl (by simp only[List.length_map];omega) rfl fun ks54 A54 _ _ K hA54 M=>?_;replace M:=Mem.cast (M:=((c53,0,[.int .i64 tk,.str tt,.int .i64 tm,.int .i64 tp])::(c8,0,[.int .i64 tk,.str tt,.int .i64 tm,.int .i64 tp])::(c15,0,[.str l,ks20,.int .i64 (JE (each (bytesOf l)).2),.int .i64 ((((k+(WG l (each (bytesOf l)).2 (each (bytesOf l)).1 k).2.2):Nat):Int))])::(A20++[]))++(A54++[])) (M':=((c53,0,[.int .i64 tk,.str tt,.int .i64 tm,.int .i64 tp])::(c8,0,[.int .i64 tk,.str tt,.int .i64 tm,.int .i64 tp])::(c15,0,[.str l,ks20,.int .i64 (JE (each (bytesOf l)).2),.int .i64 ((((k+(WG l (each (bytesOf l)).2 (each (bytesOf l)).1 k).2.2):Nat):Int))])::(A20++(A54++[])))) M (by simp only[List.append_assoc,List.cons_append,List.nil_append,List.append_nil]);refine Qg 2 K M ?_;intro _ K;obtain⟨v40,st40,ev40,rfl,q40,r40⟩:=BV M.fresh (r28.next (M.Qp (k:=2) rfl) (Acc.apart (L:=[(c53,0,[.int .i64 tk,.str tt,.int .i64 tm,.int .i64 tp]),(c8,0,[.int .i64 tk,.str tt,.int .i64 tm,.int .i64 tp]),(c15,0,[.str l,ks20,.int .i64 (JE (each (bytesOf l)).2),.int .i64 ((((k+(WG l (each (bytesOf l)).2 (each (bytesOf l)).1 k).2.2):Nat):Int))])]) (A:=A20) (B:=(A54++[])) M hA20 (k:=2) rfl) (by omega));refine o1 K (Qc rfl ev40) rfl fun _ K=>?_;have hrow40:=r40.row;have hle40:=r40.le;replace M:=M.JP (k:=2) rfl q40 hrow40;refine Q5 ?_;obtain⟨f,rfl⟩: ∃f',f=f'+1:=⟨f-1,by omega⟩;obtain⟨te1,te2⟩:=TP hB (n:=k) (by omega);rw[h49]at te1;replace te2:=te2 te1.symm;have tp1:=LP _ _ _ te1.symm;have hr40:=r40.le;rw[RB _ _ _ _ _ (by rw[List.length_drop];omega) te1.symm]at hinv;simp only[List.drop_drop]at hinv;rw[←te2.2]at hinv;exact⟨_,(by omega),_,f,acc++[VI (bytesOf l) (Jx (bytesOf l) (each (bytesOf l)).2) ((each (bytesOf l)).1.drop k)],ks54,A54,rfl,(.cons (K _ _ rfl) (.cons (K _ _ rfl) (.cons (K _ _ rfl) .nil))),M.less (.cons _ (.cons _ (.refl _))),(by rw[List.map_append,List.map_singleton,←te2.1,hsc];exact hA54),hr40,(by simp;omega),(by simpa only[Nat.add_comm,Nat.add_left_comm,Nat.add_assoc]using hinv),(by omega)⟩
   ·replace h38:=of_decide_eq_false h38;refine Uc ?_;show W _ _ _ _ _ _ _;refine Qg 5 K M ?_;intro _ K;refine Qn (K.QR rfl) (fun h59=>?_) (fun h59=>?_)
    ·replace h59:=of_decide_eq_true h59;refine Qq ?_;refine Jk (l:=[(0,0),(1,0),(2,0),(3,0),(4,0),(5,0),(6,0)]) (by kernel_rfl) ?_;refine d1 rfl K (Qb rfl) rfl rfl fun _ K=>d1 rfl K (JN rfl rfl) rfl rfl fun _ K=>d1 rfl K (Qf ZB rfl) rfl rfl fun _ K=>d1 rfl K (Qx rfl (M.load (k:=0) rfl (Qk QI rfl))) rfl rfl fun _ K=>d1 rfl K (QM rfl) rfl rfl fun _ K=>d1 rfl K (QM rfl) rfl rfl fun _ K=>d1 rfl K (QM rfl) rfl rfl fun _ K=>J0 ?_;show W _ _ _ _ _ _ _;refine Qe ⟨.inr rfl,_,(Uo (QY K rfl) (QY K rfl) (QY K rfl)),?_⟩;rw[show(each (bytesOf l)).1.drop k=[]from List.drop_eq_nil_of_le (by omega),NR]at hinv;obtain⟨q,hq⟩:=IX h59;rw[PZ (by rw[J9];omega) hinv.symm hq,hq];exact⟨.nils,rfl,⟨[],.none,fun _ _ _ h=>by cases h⟩,M.qt⟩
    ·replace h59:=of_decide_eq_false h59;refine Qg 2 K M ?_;intro _ K;refine o1 K (X3 UI rfl rfl) rfl fun _ K=>o1 K (Qz Zu rfl rfl) rfl fun _ K=>?_;refine YK K M Va Zq rfl rfl rfl rfl rfl fun c68 _ _ K M=>?_;refine V7 (k2:=0) (L:=((c68,0,[.int .i64 4,.str [],.int .i64 0,.int .i64 ((((l).length:Nat):Int))])::(c15,0,[.str l,ks20,.int .i64 (JE (each (bytesOf l)).2),.int .i64 (((k:Nat):Int))])::(A20++[]))) (A:=A) (B:=[]) K (Mem.cast (M:=((c68,0,[.int .i64 4,.str [],.int .i64 0,.int .i64 ((((l).length:Nat):Int))])::(c15,0,[.str l,ks20,.int .i64 (JE (each (bytesOf l)).2),.int .i64 (((k:Nat):Int))])::(A20++(A++[])))) (M':=((c68,0,[.int .i64 4,.str [],.int .i64 0,.int .i64 ((((l).length:Nat):Int))])::(c15,0,[.str l,ks20,.int .i64 (JE (each (bytesOf l)).2),.int .i64 (((k:Nat):Int))])::(A20++[]))++(A++[])) M (by simp only[List.append_assoc,List.cons_append,List.nil_append,List.append_nil])) hA Va rfl rfl rfl rfl (by simp only[List.length_map];omega) rfl fun ks69 A69 _ _ K hA69 M=>?_;replace M:=Mem.cast (M:=((c68,0,[.int .i64 4,.str [],.int .i64 0,.int .i64 ((((l).length:Nat):Int))])::(c15,0,[.str l,ks20,.int .i64 (JE (each (bytesOf l)).2),.int .i64 (((k:Nat):Int))])::(A20++[]))++(A69++[])) (M':=((c68,0,[.int .i64 4,.str [],.int .i64 0,.int .i64 ((((l).length:Nat):Int))])::(c15,0,[.str l,ks20,.int .i64 (JE (each (bytesOf l)).2),.int .i64 (((k:Nat):Int))])::(A20++(A69++[])))) M (by simp only[List.append_assoc,List.cons_append,List.nil_append,List.append_nil]);refine o1 K (Qb rfl) rfl fun _ K=>o1 K (X3 UI rfl rfl) rfl fun _ K=>?_;refine Qg 3 K M ?_;intro _ K;refine Qe ⟨.inr rfl,_,(Uo (QY K rfl) (QY K rfl) (QY K rfl)),?_⟩;rw[show(each (bytesOf l)).1.drop k=[]from List.drop_eq_nil_of_le (by omega),NR]at hinv;rw[Ra (by rw[J9];omega) hinv.symm (IY h59),J9];refine⟨_,rfl,?_,M.qt⟩;rw[List.map_append]
     have hE:[AH (bytesOf l)].map Yw.cells=[[.int .i64 4,.str [],.int .i64 0,.int .i64 (l.length:Int)]]:=by simp[AH,Yw.cells,J9,UO]
     rw[hE];exact Mem.zp (L:=((c68,0,[.int .i64 4,.str [],.int .i64 0,.int .i64 ((((l).length:Nat):Int))])::(c15,0,[.str l,ks20,.int .i64 (JE (each (bytesOf l)).2),.int .i64 (((k:Nat):Int))])::(A20++[]))) (A:=A69) (B:=[]) (Mem.cast (M:=((c68,0,[.int .i64 4,.str [],.int .i64 0,.int .i64 ((((l).length:Nat):Int))])::(c15,0,[.str l,ks20,.int .i64 (JE (each (bytesOf l)).2),.int .i64 (((k:Nat):Int))])::(A20++(A69++[])))) (M':=((c68,0,[.int .i64 4,.str [],.int .i64 0,.int .i64 ((((l).length:Nat):Int))])::(c15,0,[.str l,ks20,.int .i64 (JE (each (bytesOf l)).2),.int .i64 (((k:Nat):Int))])::(A20++[]))++(A69++[])) M (by simp only[List.append_assoc,List.cons_append,List.nil_append,List.append_nil])) hA69
end Go.Proofs.YtadjjadimlkkgaaGreatDoor
end
section
namespace Go.Proofs.YtadjjadimlkkgaaGreatDoor
open Go Go.RowKit

def VP(l:List Nat):Bool:=decide ((tokens (bytesOf l)).2.2=0)&&(decide ((((tokens (bytesOf l)).1.length:Nat):Int)=2)&&(match(tokens (bytesOf l)).1[0]? with
 |some t=>decide (t.kind=1)&&decide (UO t.text=l)
 |none=>false))

theorem Wy{st:St}(hf:Q6 st)(l:List Nat): ∃v st',Ev Tryz.prog Ja 143 [.str l] st v st'∧v=.bool (VP l)∧Qt st st':=by
 have htl:=LO (bytesOf l)
 have hml:((tokens (bytesOf l)).1.map Yw.cells).length=(tokens (bytesOf l)).1.length:=by simp
 refine QC rfl Tryz.func143 rfl Tryz.ntmps143 rfl fun T hT=>?_;have K:Jm [(0,_)] T:=(.cons (hT 0) .nil);have M:=Mem.start hf;refine Qg 2 K M ?_;intro _ K;obtain⟨v8,st8,ev8,ks8,rfl,nr8,q8⟩:=RP M.fresh l (by omega);refine o1 K (Qc rfl ev8) rfl fun _ K=>?_;obtain⟨A8,hA8,M⟩:=M.FZ q8 nr8;refine Qg 9 K M ?_;intro _ K;refine oB K (Qb rfl) rfl fun b14 _ e14 K=>?_;cases b14
 ·replace e14:=of_decide_eq_false e14;refine Qg 20 K M ?_;intro _ K;refine Qe ⟨.inr rfl,_,JU K rfl,?_⟩;refine⟨?_,M.qt⟩
  simp_all [VP,Qu]
 ·replace e14:=of_decide_eq_true e14;refine og K rfl rfl (Qb rfl) rfl fun _ K=>og K rfl rfl (Jd AW rfl rfl hA8.len) rfl fun _ K=>?_;refine Qg 2 K M ?_;intro _ K;refine oB K (Qb rfl) rfl fun b19 _ e19 K=>?_;cases b19
  ·replace e19:=of_decide_eq_false e19;refine Qg 15 K M ?_;intro _ K;refine Qe ⟨.inr rfl,_,JU K rfl,?_⟩;refine⟨?_,M.qt⟩
   simp_all [VP,Qu]
  ·replace e19:=of_decide_eq_true e19;refine og K rfl rfl (Qb rfl) rfl fun _ K=>?_;obtain⟨t21,ht21⟩: ∃t,(tokens (bytesOf l)).1[0]? =some t:=⟨_,List.getElem?_eq_getElem (by omega)⟩;obtain⟨x21,m21,f21,q21,_,la21,lo21,lp21⟩:=(Mem.Lv (L:=[]) (A:=A8) (B:=[]) M hA8).load (i:=0) (cs:=_) (by rw[List.getElem?_map,ht21];rfl);refine og K rfl rfl (Qr (j:=0) Xc (congrArg some q21) rfl (by rw[List.length_map];omega)) rfl fun _ K=>?_;refine Qg 1 K M ?_;intro _ K;refine og K rfl rfl (Qx rfl (lo21 _ 0 _ QI rfl)) rfl fun _ K=>?_;refine Qg 2 K M ?_;intro _ K;refine oB K (Qb rfl) rfl fun b26 _ e26 K=>?_;cases b26
   ·replace e26:=of_decide_eq_false e26;refine Qg 8 K M ?_;intro _ K;refine Qe ⟨.inr rfl,_,JU K rfl,?_⟩;refine⟨?_,M.qt⟩
    simp_all [VP,Qu]
   ·replace e26:=of_decide_eq_true e26;refine og K rfl rfl (Qb rfl) rfl fun _ K=>?_;obtain⟨t28,ht28⟩: ∃t,(tokens (bytesOf l)).1[0]? =some t:=⟨_,List.getElem?_eq_getElem (by omega)⟩;obtain⟨x28,m28,f28,q28,_,la28,lo28,lp28⟩:=(Mem.Lv (L:=[]) (A:=A8) (B:=[]) M hA8).load (i:=0) (cs:=_) (by rw[List.getElem?_map,ht28];rfl);refine og K rfl rfl (Qr (j:=0) Xc (congrArg some q28) rfl (by rw[List.length_map];omega)) rfl fun _ K=>?_;refine Qg 1 K M ?_;intro _ K;refine og K rfl rfl (Qx rfl (lo28 _ 1 _ JI rfl)) rfl fun _ K=>?_;refine Qg 4 K M ?_;intro _ K;refine Qe ⟨.inr rfl,_,JU K rfl,?_⟩;refine⟨?_,M.qt⟩
    simp_all [VP,Qu]
end Go.Proofs.YtadjjadimlkkgaaGreatDoor
end
section
namespace Go.Proofs.YtadjjadimlkkgaaGreatDoor
open Go Go.RowKit

structure Af(h:Hp)(kids:List Nd)(kk:AV)(ls:List (List AV)):Prop where
 r:J1 h [] 5 ls kk
 ln:ls.length=kids.length
 at_: ∀(i:Nat) (k:Nd),kids[i]? =some k→ ∃cs,ls[i]? =some cs∧Vn h k cs
theorem Af.len{h:Hp}{kids:List Nd}{kk:AV}{ls:List (List AV)}(H:Af h kids kk ls):ZF kk=some kids.length:=by rw[←H.ln];exact H.r.len
theorem Af.cell{h:Hp}{kids:List Nd}{kk:AV}{ls:List (List AV)}(H:Af h kids kk ls):Jy kk=true:=H.r.cell
theorem Af.ZJ{h:Hp}{kids:List Nd}{kk:AV}{ls:List (List AV)}(H:Af h kids kk ls):(kids.length:Int)≤9223372036854775807:=by rw[←H.ln];exact H.r.ZJ
theorem Vn.Ua{h:Hp}{op name:List Nat}{n at_:Int}{kids:List Nd}{cs:List AV}(r:Vn h (.mk op name n at_ kids) cs):
  ∃kk ls,cs=[.str op,.str name,.int .i64 n,.int .i64 at_,kk]∧Af h kids kk ls∧Bytes op∧Bytes name:=by
 cases r with
 |leaf hs ha hb=>
  rename_i ks;refine⟨ks,[],rfl,⟨⟨hs,by simp,WB hs,fun i cs hi=>by simp at hi,fun c m off n z e=>by subst e;cases ha⟩,rfl,fun i k hi=>by simp at hi⟩,hb⟩
 |node hr hn hl hk hb=>
  rename_i c m off cells
  have hlen:((List.range kids.length).map fun i=>(cells.drop (off+i *5)).take 5).length=kids.length:=by simp
  have hat: ∀(i:Nat) (cs:List AV),((List.range kids.length).map fun i=>(cells.drop (off+i *5)).take 5)[i]? =some cs→i<kids.length∧cs=(cells.drop (off+i *5)).take 5:=by
   intro i cs hi;rw[List.getElem?_map]at hi
   have hlt:i<kids.length:=by
    by_cases h:i<kids.length
    ·exact h
    ·rw[List.getElem?_eq_none (by simp;omega)]at hi;cases hi
   rw[List.getElem?_range hlt]at hi
   injection hi with hi
   exact⟨hlt,hi.symm⟩
  refine⟨_,(List.range kids.length).map fun i=>(cells.drop (off+i *5)).take 5,rfl,⟨⟨by rw[hlen];rfl,by rw[hlen];exact hn,rfl,fun i cs hi=>?_,fun c' m' off' n' z e=>?_⟩,hlen,fun i k hi=>?_⟩,hb⟩
  ·obtain⟨h1,rfl⟩:=hat i cs hi;refine⟨c,m,off,cells,by rw[hlen],by simp,hr,?_,rfl⟩;rw[List.length_take,List.length_drop];omega
  ·injection e with e1 e2 e3 e4 e5
   subst e1 e2 e3 e4 e5;exact⟨by simp,cells,hr,hl⟩
  ·have hlt:=(List.getElem?_eq_some_iff.1 hi).1;refine⟨_,?_,hk i k hi⟩;rw[List.getElem?_map,List.getElem?_range hlt];rfl
theorem Vn.qt{st st':St}(hf:Q6 st)(q:Qt st st'){k:Nd}{cs:List AV}(r:Vn st.h.get k cs):Vn st'.h.get k cs:=r.mono (q.rows hf)
def Nd.op:Nd→List Nat
 |.mk op _ _ _ _=>op
theorem Yb{kids:List Nd}{i:Nat}{k:Nd}(h:kids[i]? =some k):k∈kids:=List.mem_of_getElem? h

mutual
def Tg:Nd→Nat
 |.mk _ _ _ _ kids=>uU kids+1
def uU:List Nd→Nat
 |[]=>0
 |a::l=>max (Tg a) (uU l)
end
theorem jP(k:Nd):1≤Ao k:=by cases k;rw[Ao];omega
theorem uT(k:Nd):1≤Tg k:=by cases k;rw[Tg];omega
theorem Mc{kids:List Nd}{i:Nat}{k:Nd}(h:kids[i]? =some k):KP (kids.drop i)=Ao k+KP (kids.drop (i+1)):=by
 obtain⟨h1,h2⟩:=List.getElem?_eq_some_iff.1 h;rw[List.drop_eq_getElem_cons h1,KP,h2]
theorem qR{kids:List Nd}{i:Nat}{k:Nd}(h:kids[i]? =some k):uU (kids.drop i)=max (Tg k) (uU (kids.drop (i+1))):=by
 obtain⟨h1,h2⟩:=List.getElem?_eq_some_iff.1 h;rw[List.drop_eq_getElem_cons h1,uU,h2]
theorem Zi{α:Type}{l:List α}{i:Nat}(h:l.length≤i):l.drop i=[]:=List.drop_eq_nil_of_le h

def Vq:List Nat:=[118,97,114]
def Wb:List Nat:=[110,117,109]
def Zn:List Nat:=[112,108,117,115]
def XA:List Nat:=[115,101,116]
def Ul(op:List Nat):Bool:=decide (op=[117,110,105,111,110])||(decide (op=[105,110,116,101,114])||decide (op=[109,105,110,117,115]))
def JO(name:List Nat)(n:Int)(kids:List Nd)(m:Int):Bool:=decide (name=[])&&(decide (n=0)&&decide (((kids.length:Nat):Int)=m))
def Jw(x:Nd):Bool:=match x with
 |.mk op name n _ kids=>
  if op=Vq then VP name&&(decide (n=0)&&decide (((kids.length:Nat):Int)=0))
  else if op=Wb then decide (name=[])&&(decide (0≤n)&&(decide (n≤99)&&decide (((kids.length:Nat):Int)=0)))
  else if op=Zn then decide (name=[])&&(decide (1≤n)&&(decide (n≤99)&&(decide (((kids.length:Nat):Int)=1)&&kids.attach.all fun k=>decide (k.1.op=Vq)&&Jw k.1)))
  else if op=XA then decide (name=[])&&(decide (n=0)&&(decide (((kids.length:Nat):Int)≤6)&&kids.attach.all fun k=>Jw k.1&&(!Ul k.1.op&& !decide (k.1.op=XA))))
  else if Ul op then JO name n kids 2&&((kids.attach.all fun k=>Jw k.1)&&(match kids[1]? with|some k=> !Ul k.op|none=>true))
  else false
termination_by Ao x
decreasing_by
 all_goals
  simp_wf
  have:=UX k.2;rw[Ao];omega
theorem AK{α:Type}(l:List α)(p:α→Bool):(l.attach.all fun x=>p x.1)=l.all p:=by
 rw[List.all_eq,List.all_eq];simp
def YQ(k:Nd):Bool:=Jw k&&(!Ul k.op&& !decide (k.op=XA))
theorem Ut(op name:List Nat)(n at_:Int)(kids:List Nd):Jw (.mk op name n at_ kids)=
  if op=Vq then VP name&&(decide (n=0)&&decide (((kids.length:Nat):Int)=0))
  else if op=Wb then decide (name=[])&&(decide (0≤n)&&(decide (n≤99)&&decide (((kids.length:Nat):Int)=0)))
  else if op=Zn then decide (name=[])&&(decide (1≤n)&&(decide (n≤99)&&(decide (((kids.length:Nat):Int)=1)&&kids.all fun k=>decide (k.op=Vq)&&Jw k)))
  else if op=XA then decide (name=[])&&(decide (n=0)&&(decide (((kids.length:Nat):Int)≤6)&&kids.all YQ))
  else if Ul op then JO name n kids 2&&((kids.all Jw)&&(match kids[1]? with|some k=> !Ul k.op|none=>true))
  else false:=by
 rw[Jw];rw[AK kids fun k=>decide (k.op=Vq)&&Jw k,AK kids fun k=>Jw k&&(!Ul k.op&& !decide (k.op=XA)),AK kids Jw];rfl
def oneOf(op:List Nat)(l:List (List Nat)):Bool:=l.any fun x=>decide (op=x)
def Jz(x:Nd):Bool:=match x with
 |.mk op name n _ kids=>
  if oneOf op [[116,114,117,101],[102,97,108,115,101]]then JO name n kids 0
  else if op=[110,111,116]then JO name n kids 1&&kids.attach.all fun k=>Jz k.1
  else if oneOf op [[97,110,100],[111,114],[105,109,112],[105,102,102]]then JO name n kids 2&&kids.attach.all fun k=>Jz k.1
  else if oneOf op [[101,120],[97,108,108]]then VP name&&(decide (0≤n)&&(decide (n<3)&&(decide (((kids.length:Nat):Int)=1)&&kids.attach.all fun k=>Jz k.1)))
  else if op=[105,115]then VP name&&(decide (n=0)&&decide (((kids.length:Nat):Int)=0))
  else if oneOf op [[101,113],[110,101],[108,116],[108,101],[105,110],[110,111,116,105,110],[115,117,98]]then JO name n kids 2&&kids.all Jw
  else if op=[99,97,108,108]then VP name&&(decide (n=0)&&(decide (((kids.length:Nat):Int)≤6)&&kids.all Jw))
  else false
termination_by Ao x
decreasing_by
 all_goals
  simp_wf
  have:=UX k.2;rw[Ao];omega
theorem Uv(op name:List Nat)(n at_:Int)(kids:List Nd):Jz (.mk op name n at_ kids)=
  if oneOf op [[116,114,117,101],[102,97,108,115,101]]then JO name n kids 0
  else if op=[110,111,116]then JO name n kids 1&&kids.all Jz
  else if oneOf op [[97,110,100],[111,114],[105,109,112],[105,102,102]]then JO name n kids 2&&kids.all Jz
  else if oneOf op [[101,120],[97,108,108]]then VP name&&(decide (0≤n)&&(decide (n<3)&&(decide (((kids.length:Nat):Int)=1)&&kids.all Jz)))
  else if op=[105,115]then VP name&&(decide (n=0)&&decide (((kids.length:Nat):Int)=0))
  else if oneOf op [[101,113],[110,101],[108,116],[108,101],[105,110],[110,111,116,105,110],[115,117,98]]then JO name n kids 2&&kids.all Jw
  else if op=[99,97,108,108]then VP name&&(decide (n=0)&&(decide (((kids.length:Nat):Int)≤6)&&kids.all Jw))
  else false:=by
 rw[Jz];rw[AK kids Jz]
end Go.Proofs.YtadjjadimlkkgaaGreatDoor
end
section
namespace Go.Proofs.YtadjjadimlkkgaaGreatDoor
open Go Go.RowKit

theorem jU (x : Nd) : ∀ (most : Int) (st : St) (cs : List AV), Q6 st → Vn st.h.get x cs → 1 ≤ most → most ≤ 1000000 → ∃ v st', Ev Tryz.prog Ja 199 [.agg cs, .int .i64 most] st v st' ∧ v = .int .i64 (min ((Ao x : Nat) : Int) most) ∧ Qt st st' := by
 refine A0 (M := fun x => ∀ (most : Int) (st : St) (cs : List AV), Q6 st → Vn st.h.get x cs → 1 ≤ most → most ≤ 1000000 → ∃ v st', Ev Tryz.prog Ja 199 [.agg cs, .int .i64 most] st v st' ∧ v = .int .i64 (min ((Ao x : Nat) : Int) most) ∧ Qt st st') (fun o s z a l ih => ?_) x;intro most st cs hf hr h1 h2;have hr0 := hr;obtain ⟨kk, ls, rfl, hK, hb⟩ := hr.Ua;have hln := hK.ln;have hbn := hK.ZJ;refine QC rfl Tryz.func199 rfl Tryz.ntmps199 rfl fun T hT => ?_;have K : Jm [(0, _), (1, _)] T := (.cons (hT 0) (.cons (hT 1) .nil));have M := Mem.start hf;refine Qq <| Qh ?_;refine J2 K M rfl (Qa rfl (Qa rfl (Qa rfl (Qa rfl (Qa hK.cell Qv))))) (by decide) fun c2 _ _ K M => ?_;refine Qg 3 K M ?_;intro _ K;refine Qn (K.QR rfl) (fun h9 => ?_) (fun h9 => ?_)
 · have hb9 := h9;replace h9 := of_decide_eq_true h9;refine Qg 1 K M ?_;intro _ K;refine Qe ⟨.inr rfl, _, JU K rfl, ?_⟩
   first
    | (exfalso; omega)
    | (refine ⟨?_, M.qt⟩; rw [hinv]; congr 1; have hz : i = l.length := by omega
       rw [Zi (by omega), KP]; omega)
    | (refine ⟨?_, M.qt⟩; rw [hinv]; congr 1; omega)
 · have hb9 := h9;replace h9 := of_decide_eq_false h9;refine Qg 3 K M ?_;intro _ K;refine o1 K (Jd J5 rfl rfl hK.len) rfl fun _ K => ?_;refine Qg 1 K M ?_;intro _ K;refine U8 (fun mm1 T st9 => ∃ (i : Nat) (m : Int), mm1 = l.length - i ∧ Jm [(1, .int .i64 most), (4, .int .i64 0), (5, .int .i64 m), (11, kk), (12, .int .i64 (((l.length : Nat) : Int))), (13, .int .i64 (((i : Nat) : Int)))] T ∧ Mem st.h.get st.n [] st9 [(c2, 0, [.str o, .str s, .int .i64 z, .int .i64 a, kk])] ∧ i ≤ l.length ∧ 1 ≤ m ∧ m ≤ most ∧ min (((Ao (.mk o s z a l)) : Nat) : Int) most = min (m + ((KP (l.drop i) : Nat) : Int)) most) (fun mm1 T st9 hI => ?_) _ _ _ ⟨0, 1, rfl, (.cons (K _ _ rfl) (.cons (K _ _ rfl) (.cons (K _ _ rfl) (.cons (K _ _ rfl) (.cons (K _ _ rfl) (.cons (K _ _ rfl) .nil)))))), M.less (.refl _), (Nat.zero_le _), (by omega), h1, (by rw [Ao, List.drop_zero]; omega)⟩;obtain ⟨i, m, rfl, K, M, hi, hm1, hm2, hinv⟩ := hI;refine Qg 1 K M ?_;intro _ K;refine Qn (K.QR rfl) (fun h14 => ?_) (fun h14 => ?_)
   · have hb14 := h14;replace h14 := of_decide_eq_true h14;refine QT ?_;show W _ _ _ _ _ _ _;refine Qq <| Uw <| Qq <| Qh ?_;obtain ⟨⟨o15, s15, z15, a15, l15⟩, hi15⟩ : ∃ k, l[i]? = some k := ⟨_, List.getElem?_eq_getElem (by omega)⟩;have hm15 := Yb hi15;obtain ⟨_, hc15, hn15⟩ := hK.at_ _ _ hi15;have hp15 := hn15;obtain ⟨kk15, ls15, rfl, hK15, hb15⟩ := hp15.Ua;obtain ⟨x15, m15, f15, q15, _, la15, lo15, lp15⟩ := (hK.r.mem M (by simp)).load (i := i) (cs := _) hc15;refine o1 K (Qr (j := i) JH (congrArg some q15) rfl (by rw [hK.ln]; omega)) rfl fun _ K => o1 K (Qx rfl (la15 _ QO)) rfl fun _ K => ?_;refine U0 K M QN (by decide) fun c7 _ _ K M => ?_;refine QB (k := 0) K M rfl rfl rfl QH rfl (Qa rfl (Qa rfl (Qa rfl (Qa rfl (Qa hK15.cell Qv))))) rfl fun _ M => ?_;refine Qg 3 K M ?_;intro _ K;refine Qn (K.QR rfl) (fun h19 => ?_) (fun h19 => ?_)
     · have hb19 := h19;replace h19 := of_decide_eq_true h19;refine Uc ?_;show W _ _ _ _ _ _ _;refine Qg 2 K M ?_;intro _ K;refine Qe ⟨.inr rfl, _, JU K rfl, ?_⟩
       first
        | (exfalso; omega)
        | (refine ⟨?_, M.qt⟩; rw [hinv]; congr 1; have hz : i = l.length := by omega
           rw [Zi (by omega), KP]; omega)
        | (refine ⟨?_, M.qt⟩; rw [hinv]; congr 1; omega)
     · have hb19 := h19;replace h19 := of_decide_eq_false h19;refine Qg 4 K M ?_;intro _ K;refine o1 K (No rfl rfl (by omega) (by omega)) rfl fun _ K => ?_;refine oQ K M (ih _ (hm15) (most - m) _ _ M.fresh (hn15.mono M.rows) (by omega) (by omega)) rfl rfl fun _ _ K M => ?_;refine o1 K (Jn rfl rfl (by omega) (by omega)) rfl fun _ K => ?_;refine Qg 1 K M ?_;intro _ K;refine o1 K (Jn rfl rfl (by omega) (by omega)) rfl fun _ K => o1 K (Qb rfl) rfl fun _ K => Q5 ?_;have hst := Mc hi15;have hsp := jP (.mk o15 s15 z15 a15 l15);exact ⟨_, (by omega), i + 1, (m + min ((Ao (.mk o15 s15 z15 a15 l15) : Nat) : Int) (most - m)), rfl, (.cons (K _ _ rfl) (.cons (K _ _ rfl) (.cons (K _ _ rfl) (.cons (K _ _ rfl) (.cons (K _ _ rfl) (.cons (K _ _ rfl) .nil)))))), M.less (.cons _ (.refl _)), (by omega), (by omega), (by omega), (by omega)⟩
   · have hb14 := h14;replace h14 := of_decide_eq_false h14;refine Uc ?_;show W _ _ _ _ _ _ _;refine Qg 2 K M ?_;intro _ K;refine Qe ⟨.inr rfl, _, JU K rfl, ?_⟩
     first
      | (exfalso; omega)
      | (refine ⟨?_, M.qt⟩; rw [hinv]; congr 1; have hz : i = l.length := by omega
         rw [Zi (by omega), KP]; omega)
      | (refine ⟨?_, M.qt⟩; rw [hinv]; congr 1; omega)

theorem qU(x:Nd): ∀(most:Int) (st:St) (cs:List AV),Q6 st→Vn st.h.get x cs→1≤most→most≤1000000→ ∃v st',Ev Tryz.prog Ja 206 [.agg cs,.int .i64 most] st v st'∧v=.int .i64 (min ((Tg x:Nat):Int) most)∧Qt st st':=by
 refine A0 (M:=fun x=> ∀(most:Int) (st:St) (cs:List AV),Q6 st→Vn st.h.get x cs→1≤most→most≤1000000→ ∃v st',Ev Tryz.prog Ja 206 [.agg cs,.int .i64 most] st v st'∧v=.int .i64 (min ((Tg x:Nat):Int) most)∧Qt st st') (fun o s z a l ih=>?_) x;intro most st cs hf hr h1 h2;have hr0:=hr;obtain⟨kk,ls,rfl,hK,hb⟩:=hr.Ua;have hln:=hK.ln;have hbn:=hK.ZJ;refine QC rfl Tryz.func206 rfl Tryz.ntmps206 rfl fun T hT=>?_;have K:Jm [(0,_),(1,_)] T:=(.cons (hT 0) (.cons (hT 1) .nil));have M:=Mem.start hf;refine Qq<|Qh ?_;refine J2 K M rfl (Qa rfl (Qa rfl (Qa rfl (Qa rfl (Qa hK.cell Qv))))) (by decide) fun c2 _ _ K M=>?_;refine Qg 4 K M ?_;intro _ K;refine Qn (K.QR rfl) (fun h9=>?_) (fun h9=>?_)
 ·have hb9:=h9;replace h9:=of_decide_eq_true h9;refine Qg 2 K M ?_;intro _ K;refine o1 K (Jd J5 rfl rfl hK.len) rfl fun _ K=>?_;refine Qg 1 K M ?_;intro _ K;refine U8 (fun mm1 T st9=> ∃(i:Nat) (m:Int),mm1=l.length-i∧Jm [(1,.int .i64 most),(4,.int .i64 0),(5,.int .i64 m),(11,kk),(12,.int .i64 (((l.length:Nat):Int))),(13,.int .i64 (((i:Nat):Int)))] T∧Mem st.h.get st.n [] st9 [(c2,0,[.str o,.str s,.int .i64 z,.int .i64 a,kk])]∧i≤l.length∧0≤m∧m≤most-1∧min (((uU l):Nat):Int) (most-1)=max m (min ((uU (l.drop i):Nat):Int) (most-1))) (fun mm1 T st9 hI=>?_) _ _ _ ⟨0,0,rfl,(.cons (K _ _ rfl) (.cons (K _ _ rfl) (.cons (K _ _ rfl) (.cons (K _ _ rfl) (.cons (K _ _ rfl) (.cons (K _ _ rfl) .nil)))))),M.less (.refl _),(Nat.zero_le _),(by omega),(by omega),(by rw[List.drop_zero];omega)⟩;obtain⟨i,m,rfl,K,M,hi,hm1,hm2,hinv⟩:=hI;refine Qg 1 K M ?_;intro _ K;refine Qn (K.QR rfl) (fun h14=>?_) (fun h14=>?_)
  · have hb14:=h14;replace h14:=of_decide_eq_true h14;refine QT ?_;show W _ _ _ _ _ _ _;refine Qq<|Uw<|Qq<|Qh ?_;obtain⟨⟨o15,s15,z15,a15,l15⟩,hi15⟩: ∃k,l[i]? =some k:=⟨_,List.getElem?_eq_getElem (by omega)⟩;have hm15:=Yb hi15;obtain⟨_,hc15,hn15⟩:=hK.at_ _ _ hi15;have hp15:=hn15;obtain⟨kk15,ls15,rfl,hK15,hb15⟩:=hp15.Ua;obtain⟨x15,m15,f15,q15,_,la15,lo15,lp15⟩:=(hK.r.mem M (by simp)).load (i:=i) (cs:=_) hc15;refine o1 K (Qr (j:=i) JH (congrArg some q15) rfl (by rw[hK.ln];omega)) rfl fun _ K=>o1 K (Qx rfl (la15 _ QO)) rfl fun _ K=>?_;refine U0 K M QN (by decide) fun c7 _ _ K M=>?_;refine QB (k:=0) K M rfl rfl rfl QH rfl (Qa rfl (Qa rfl (Qa rfl (Qa rfl (Qa hK15.cell Qv))))) rfl fun _ M=>?_;refine Qg 3 K M ?_;intro _ K;refine o1 K (No rfl rfl (by omega) (by omega)) rfl fun _ K=>?_;refine oQ K M (ih _ (hm15) (most-1) _ _ M.fresh (hn15.mono M.rows) (by omega) (by omega)) rfl rfl fun _ _ K M=>?_;refine o1 K (zi rfl rfl) rfl fun _ K=>?_;refine Qg 1 K M ?_;intro _ K;refine o1 K (Jn rfl rfl (by omega) (by omega)) rfl fun _ K=>o1 K (Qb rfl) rfl fun _ K=>Q5 ?_;have hst:=qR hi15;have hsp:=uT (.mk o15 s15 z15 a15 l15);exact⟨_,(by omega),i+1,(max m (min ((Tg (.mk o15 s15 z15 a15 l15):Nat):Int) (most-1))),rfl,(.cons (K _ _ rfl) (.cons (K _ _ rfl) (.cons (K _ _ rfl) (.cons (K _ _ rfl) (.cons (K _ _ rfl) (.cons (K _ _ rfl) .nil)))))),M.less (.cons _ (.refl _)),(by omega),(by omega),(by omega),(by omega)⟩
  · have hb14:=h14;replace h14:=of_decide_eq_false h14;refine Uc ?_;show W _ _ _ _ _ _ _;refine Qg 1 K M ?_;intro _ K;refine o1 K (Jn rfl rfl (by omega) (by omega)) rfl fun _ K=>?_;refine Qg 1 K M ?_;intro _ K;refine Qe ⟨.inr rfl,_,JU K rfl,?_⟩;refine⟨congrArg (AV.int .i64) ?_,M.qt⟩
    first
     |(rw[Tg,Zi (show l.length≤i by omega),uU]at *;omega)
     |(rw[Tg];omega)
 ·have hb9:=h9;replace h9:=of_decide_eq_false h9;refine Qg 1 K M ?_;intro _ K;refine o1 K (Jn rfl rfl (by omega) (by omega)) rfl fun _ K=>?_;refine Qg 1 K M ?_;intro _ K;refine Qe ⟨.inr rfl,_,JU K rfl,?_⟩;refine⟨congrArg (AV.int .i64) ?_,M.qt⟩
  first
   |(rw[Tg,Zi (show l.length≤i by omega),uU]at *;omega)
   |(rw[Tg];omega)

end Go.Proofs.YtadjjadimlkkgaaGreatDoor
end
section
namespace Go.Proofs.YtadjjadimlkkgaaGreatDoor
open Go

theorem Ak:tk Tryz.prog 55=.one:=by kernel_rfl
end Go.Proofs.YtadjjadimlkkgaaGreatDoor
end
