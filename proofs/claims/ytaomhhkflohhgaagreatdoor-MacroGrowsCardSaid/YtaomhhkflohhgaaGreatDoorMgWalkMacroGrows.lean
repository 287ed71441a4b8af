/-
  MacroGrows: what would grow beyond all bounds is refused.
-/
import Derived.Test.YtaomhhkflohhgaaGreatDoorMgShl
set_option linter.unnecessarySimpa false
set_option linter.unusedSectionVars false
set_option linter.unusedSimpArgs false
set_option linter.unusedVariables false
namespace Go.Proofs.YtaomhhkflohhgaaGreatDoor
open Go Go.RowKit
section
set_option maxHeartbeats 8000000
set_option maxRecDepth 100000

theorem BW(st:St):Ev Tryz.prog QR 7 [] st (.bool true) st:=⟨0,1,rfl⟩
theorem xv.eu{R:Xh}{p:Pd}{cs:List AV}(r:xv R p cs)(hb:eb p):yx R p cs:=by
 obtain⟨kp,o,s,z,a,kk,e,⟨A,hx,n0,hA⟩,hn⟩:=r;exact⟨kp,_,[.str o,.str s,.int .i64 z,.int .i64 a,kk],e,fun h hR=>xo hA hx hR hb.2,hn,hb.1⟩
theorem yw.eu{R:Xh}{g:Pg}{o s:List Nat}{z a:Int}{l:List Nd}{kd kp kk:AV}{o' s':List Nat}{z' a':Int}(hg:g.main=.mk o s z a l)(r:yw R g [kd,kp,.str o',.str s',.int .i64 z',.int .i64 a',kk])(hb:en g):ek R g [kd,kp,.str o',.str s',.int .i64 z',.int .i64 a',kk]:=by
 obtain⟨kd,kp,o1,s1,z1,a1,kk,lsp,e,⟨A,hx,n0,hA⟩,⟨A2,hx2,n2,hA2⟩,hl,hP,hn⟩:=r
 injection e with e1 e;injection e with e2 e;injection e with e3 e;injection e with e4 e;injection e with e5 e;injection e with e6 e;injection e with e7 e
 injection e3 with e3;injection e4 with e4;injection e5 with _ e5;injection e6 with _ e6
 subst e1 e2 e3 e4 e5 e6 e7;obtain⟨l',hs⟩:=hn.shape
 have hm:g.main.op=o'∧g.main.name=s'∧g.main.Wn=z'∧g.main.place=a':=by rw[hs];exact⟨rfl,rfl,rfl,rfl⟩
 obtain⟨m1,m2,m3,m4⟩:=hm;subst m1 m2 m3 m4;refine⟨kd,_,kp,lsp,kk,rfl,fun h hR=>xo hA hx hR hb.1,⟨fun h hR=>hA2.eV hx2 hR,hl,fun i p hi=>?_⟩,hn⟩
 have hlt:i<lsp.length:=by rw[hl];exact(List.getElem?_eq_some_iff.1 hi).1
 exact⟨_,List.getElem?_eq_getElem hlt,(hP i p _ hi (List.getElem?_eq_getElem hlt)).eu (hb.2 p (List.mem_of_getElem? hi))⟩
theorem vf: ∀{n:Nat},n≤14→Bytes (y8 n)
 |0,_=>by unfold y8 Bytes;decide
 |n+1,h=>by intro x hx;rw[y8,List.mem_singleton]at hx;omega
theorem Bytes.app{a b:List Nat}(h1:Bytes a)(h2:Bytes b):Bytes (a++b):=fun x hx=>by
 rcases List.mem_append.1 hx with h|h
 ·exact h1 x h
 ·exact h2 x h
theorem qv: ∀{n:Nat},n≤14→Bytes (Hq n)
 |0,_=>by unfold Hq Bytes;decide
 |n+1,h=>by
  have h1:=qv (n:=n) Qh;have h2:=vf (n:=n) Qh;have h3:=vf h;rw[Hq];exact((((((h1.app (by unfold Bytes;decide)).app h3).app (by unfold Bytes;decide)).app h2).app (by unfold Bytes;decide)).app h2).app (by unfold Bytes;decide)
theorem KR: ∀(n:Nat),(y8 n).length=1
 |0=>rfl
 |_+1=>rfl
theorem IF: ∀(n:Nat),(Hq n).length≤17+40 *n
 |0=>by decide
 |n+1=>by
  have h:=IF n;have h1:=KR n;have h2:=KR (n+1);rw[Hq];simp only[List.length_append,List.length_cons,List.length_nil];omega
theorem vq{n:Nat}(h:n≤14):Bytes (Kn n):=(((qv h).app (by unfold Bytes;decide)).app (vf h)).app (by unfold Bytes;decide)
theorem uq{n:Nat}(h:n≤14):(Kn n).length≤140737488351232:=by
 have h1:=IF n;have h2:=KR n;unfold Kn;simp only[List.length_append,List.length_cons,List.length_nil];omega

theorem qV{st:St}(hf:Qw st)(l:List Nat)(hB:Bytes l)(hl:l.length≤140737488351232): ∃v st',Ev Tryz.prog QR 5 [.str l] st v st'∧ ∃cs,v=.agg cs∧(∃A,P3 st.n st' A∧yw (JX R0 A) (UJ l).1 cs)∧Qt st st':=by
 refine Yu Tryz.func5 Tryz.ntmps5 fun T K=>?_;have M:=Mem.start hf;refine au 2 K M ?_;intro c2 _ _ K _ M;obtain⟨v8,st8,ev8,cs8,rfl,⟨A8,hS8,hW8⟩,q8⟩:=je M.fresh l hB hl;refine p1 K (Qe rfl ev8) fun _ K=>?_;replace M:=M.YN q8 hS8;have hgB8:=Sn l;generalize hg8:(UJ l).1=g8 at hW8 hgB8;obtain⟨ds8,ps8,⟨om8,sm8,zm8,am8,lm8⟩⟩:=g8;have hw8:=hW8;obtain⟨kd8,kp8,oP8,sP8,zP8,aP8,kk8,lsp8,rfl,⟨Ad8,hxd8,nd8,hAd8⟩,⟨Ap8,hxp8,np8,hAp8⟩,hlp8,hPA8,hN8⟩:=hw8;replace M:=Mem.cast (M':=((c2,0,[.nils,.nils,.str [],.str [],iZ 0,iZ 0,.nils])::(A8++[]))) M Za;refine au 5 K M ?_;intro c3 _ _ K _ M;refine Qz (k:=0) K M rfl rfl rfl UY rfl (Qa hAd8.cell (Qa hAp8.cell (Qa rfl (Qa rfl (Qa rfl (Qa rfl (Qa hN8.JK Qo))))))) rfl fun _ M=>?_;refine Qc 3 K M fun _ K=>?_;refine Qz (k:=1) K M rfl rfl rfl UY rfl (Qa hAd8.cell (Qa hAp8.cell (Qa rfl (Qa rfl (Qa rfl (Qa rfl (Qa hN8.JK Qo))))))) rfl fun _ M=>?_;refine Qc 0 K M ?_;exact⟨_,rfl,⟨A8,M.KI (by first|exact .refl _|simp),hW8⟩,M.qt⟩

theorem OL{st:St}(hf:Qw st)(n:Int)(hn: -9223372036854775808≤n∧n≤9223372036854775807): ∃v st',Ev Tryz.prog QR 3 [iZ n] st v st'∧v=.bool true:=by
 refine Yu Tryz.func3 Tryz.ntmps3 fun T K=>?_;have M:=Mem.start hf;refine Qc 3 K M fun _ K=>?_;refine Eh K rfl (fun _ e13 K=>?_) fun _ e13 K=>?_
 ·refine Qc 3 K M fun _ K=>?_;refine Xj K rfl (fun h16=>?_) fun h16=>?_
  ·refine Qc 1 K M ?_;rfl
  refine Qc 0 K M fun _ K=>?_;refine p1 K (JH (v:=.str [112,114,101,100,32,112,48,40,41,32,61,32,116,114,117,101,59]) rfl) fun _ K=>?_;refine Qc 1 K M fun _ K=>?_;obtain⟨n,rfl⟩: ∃k:Nat,n=((k:Nat):Int):=⟨n.toNat,by omega⟩
  have hn14:n≤14:=by omega
  refine JQ (fun mm1 T st9=> ∃(i:Nat),mm1=n-i∧Jr [(0,iN n),(2,.bool false),(3,.str (Hq i)),(4,iZ (i+1:Nat))] T∧Mem st.h.get st.n [] st9 []∧i≤n) (fun mm1 T st9 hI=>?_) _ _ _ ⟨0,rfl,(K.sub rfl),M.less (.refl _),(Nat.zero_le _)⟩;obtain⟨i,rfl,K,M,hi⟩:=hI;have hlt:=IF i;have hnl:=KR i;have hnl2:=KR (i+1);refine Qc 3 K M fun _ K=>?_;refine Xj K rfl (fun h19=>?_) fun h19=>?_
  ·refine Qc 0 K M fun _ K=>?_;refine Ja (l:=[(0,0),(1,0),(2,0),(3,0),(4,0),(5,0),(6,0),(7,0),(8,0),(9,0),(10,0),(11,0),(12,0)]) (by kernel_rfl) ?_;refine Ui 2 K M fun _ K=>?_;refine q1 rfl K (Sp (c:=((97+i:Nat):Int)) rfl rfl (by rw[IntWalk.i64_in _ Qh];omega)) fun _ K=>q1 rfl K (VE (c:=((97+i:Nat):Int)) YO Ey rfl (IntWalk.u8_in _ Qh)) fun _ K=>?_;refine Z3 rfl K M HP IA rfl rfl rfl rfl rfl fun c26 _ _ K M=>?_;refine q1 rfl K (Wv ZB YO Up rfl (Jj.YQ (M.Qn (k:=0) rfl)) (by first|decide|omega)) fun _ K=>q1 rfl K (Q9 rfl) fun _ K=>q1 rfl K (Sq (c:=((97+(i+1):Nat):Int)) rfl rfl (by rw[IntWalk.i64_in _ Qh];omega)) fun _ K=>q1 rfl K (VE (c:=((97+(i+1):Nat):Int)) YO Ey rfl (IntWalk.u8_in _ Qh)) fun _ K=>?_;refine Z3 rfl K M HP IA rfl rfl rfl rfl rfl fun c31 _ _ K M=>?_;refine q1 rfl K (Wv ZB YO Up rfl (Jj.YQ (M.Qn (k:=0) rfl)) (by first|decide|omega)) fun _ K=>?_;refine Ui 2 K M fun _ K=>?_;refine Ji ?_;show W _ _ _ _ _ _ _;refine Qc 2 K M fun _ K=>?_;refine Xj K rfl (fun h34=>?_) fun h34=>?_
   ·refine Uf<|p1 K (JH (v:=.str [48]) rfl) fun _ K=>?_;refine Qc 1 K M fun _ K=>?_;refine p1 K (UW (b:=[112,114,101,100,32,112]) rfl rfl (by first|omega|(simp only[List.length_append,List.length_cons,List.length_nil];omega))) fun _ K=>?_;refine Qc 1 K M fun _ K=>?_;refine p1 K (UW rfl rfl (by first|omega|(simp only[List.length_append,List.length_cons,List.length_nil];omega))) fun _ K=>p1 K (UW (b:=[40,41,32,61,32,112]) rfl rfl (by first|omega|(simp only[List.length_append,List.length_cons,List.length_nil];omega))) fun _ K=>?_;refine Qc 1 K M fun _ K=>?_;refine p1 K (UW rfl rfl (by first|omega|(simp only[List.length_append,List.length_cons,List.length_nil];omega))) fun _ K=>p1 K (UW (b:=[40,41,32,38,32,112]) rfl rfl (by first|omega|(simp only[List.length_append,List.length_cons,List.length_nil];omega))) fun _ K=>?_;refine Qc 1 K M fun _ K=>?_;refine p1 K (UW rfl rfl (by first|omega|(simp only[List.length_append,List.length_cons,List.length_nil];omega))) fun _ K=>p1 K (UW (b:=[40,41,59]) rfl rfl (by first|omega|(simp only[List.length_append,List.length_cons,List.length_nil];omega))) fun _ K=>?_;refine Qc 4 K M fun _ K=>?_
    obtain rfl:i=0:=by omega
    exact⟨_,Qh,0+1,rfl,(K.sub rfl),M.less (.cons _ (.cons _ (.refl _))),Qh⟩
   refine Qc 1 K M fun _ K=>?_;refine p1 K (UW (b:=[112,114,101,100,32,112]) rfl rfl (by first|omega|(simp only[List.length_append,List.length_cons,List.length_nil];omega))) fun _ K=>?_;refine Qc 1 K M fun _ K=>?_;refine p1 K (UW rfl rfl (by first|omega|(simp only[List.length_append,List.length_cons,List.length_nil];omega))) fun _ K=>p1 K (UW (b:=[40,41,32,61,32,112]) rfl rfl (by first|omega|(simp only[List.length_append,List.length_cons,List.length_nil];omega))) fun _ K=>?_;refine Qc 1 K M fun _ K=>?_;refine p1 K (UW rfl rfl (by first|omega|(simp only[List.length_append,List.length_cons,List.length_nil];omega))) fun _ K=>p1 K (UW (b:=[40,41,32,38,32,112]) rfl rfl (by first|omega|(simp only[List.length_append,List.length_cons,List.length_nil];omega))) fun _ K=>?_;refine Qc 1 K M fun _ K=>?_;refine p1 K (UW rfl rfl (by first|omega|(simp only[List.length_append,List.length_cons,List.length_nil];omega))) fun _ K=>p1 K (UW (b:=[40,41,59]) rfl rfl (by first|omega|(simp only[List.length_append,List.length_cons,List.length_nil];omega))) fun _ K=>?_;refine Qc 4 K M fun _ K=>?_;obtain⟨k,rfl⟩: ∃k,i=k+1:=⟨i-1,by omega⟩;exact⟨_,Qh,k+1+1,rfl,(K.sub rfl),M.less (.cons _ (.cons _ (.refl _))),Qh⟩
  refine Jx ?_;show W _ _ _ _ _ _ _;refine Qc 0 K M fun _ K=>?_;refine p1 K (JH (v:=.str [48]) rfl) fun _ K=>Y5 ?_;show W _ _ _ _ _ _ _
  have hin:n=i:=by omega
  subst hin;have htl:=IF n;have hnl:=KR n;refine VY (J:=fun T st9=>Jr [(0,iN n),(2,.bool false),(3,.str (Hq n)),(7,.str (y8 n))] T∧Mem st.h.get st.n [] st9 []) ?_ (fun T st9 hJ=>?_)
  ·refine Qc 2 K M fun _ K=>?_;refine Xj K rfl (fun h47=>?_) fun h47=>?_
   ·refine Qc 1 K M fun _ K=>?_;refine p1 K (Sq (c:=((97+n:Nat):Int)) rfl rfl (by rw[IntWalk.i64_in _ Qh];omega)) fun _ K=>p1 K (VE (c:=((97+n:Nat):Int)) YO Ey rfl (IntWalk.u8_in _ Qh)) fun _ K=>?_;refine au 1 K M ?_;intro c51 _ _ K _ M;refine p1 K (Wv ZB YO Up rfl (Jj.YQ (M.Qn (k:=0) rfl)) (by first|decide|omega)) fun _ K=>?_;refine Qc 1 K M fun _ K=>?_;obtain⟨k,rfl⟩: ∃k,n=k+1:=⟨n-1,by omega⟩;exact⟨(K.sub rfl),M.less (.cons _ (.refl _))⟩
   refine JM ?_
   obtain rfl:n=0:=by omega
   exact⟨(K.sub rfl),M.less (.refl _)⟩
  obtain⟨K,M⟩:=hJ;refine Qc 1 K M fun _ K=>?_;refine p1 K (UW (b:=[112]) rfl rfl (by first|omega|(simp only[List.length_append,List.length_cons,List.length_nil];omega))) fun _ K=>?_;refine Qc 1 K M fun _ K=>?_;refine p1 K (UW rfl rfl (by first|omega|(simp only[List.length_append,List.length_cons,List.length_nil];omega))) fun _ K=>p1 K (UW (b:=[40,41,59]) rfl rfl (by first|omega|(simp only[List.length_append,List.length_cons,List.length_nil];omega))) fun _ K=>?_;have hfull:((((Hq n)++[112])++(y8 n))++[40,41,59])=Kn n:=rfl;obtain⟨v59,st59,ev59,cs59,rfl,⟨A59,hS59,hW59⟩,q59⟩:=qV M.fresh (Kn n) (vq hn14) (uq hn14);refine p1 K (Qe rfl ev59) fun _ K=>?_;replace M:=M.YN q59 hS59;have hgB59:=Sn (Kn n);have hgd:=Mz n hn14;replace hgd:SA n (UJ (Kn n)).1=true:=hgd;generalize hg59:(UJ (Kn n)).1=g59 at hW59 hgB59 hgd;obtain⟨ds59,ps59,⟨om59,sm59,zm59,am59,lm59⟩⟩:=g59;have hw59:=hW59;obtain⟨kd59,kp59,oP59,sP59,zP59,aP59,kk59,lsp59,rfl,⟨Ad59,hxd59,nd59,hAd59⟩,⟨Ap59,hxp59,np59,hAp59⟩,hlp59,hPA59,hN59⟩:=hw59;obtain⟨f1,f2,f3,f4,f5,f6⟩:=My hgd;replace f1:ps59.length≤30:=f1;replace f2:ds59.length≤10:=f2;replace f3: ∀q∈ps59,Uj q.body≤80:=f3;replace f4:Uj (.mk om59 sm59 zm59 am59 lm59)≤80:=f4
  have hE8:y5 20000 80 ⟨ds59,ps59,.mk om59 sm59 zm59 am59 lm59⟩:=u7 f1 (fun p hp=>by
   obtain⟨i,hi⟩:=List.getElem?_of_mem hp;have hi2:ps59[i]? =some p:=hi
   have hlt:i<lsp59.length:=by rw[hlp59];exact(List.getElem?_eq_some_iff.1 hi2).1
   obtain⟨_,_,_,_,_,_,_,_,hn9⟩:=hPA59 i p _ hi2 (List.getElem?_eq_getElem hlt)
   exact(hn9.AP (M.Mv (xu _) (fun x hx=>by simp[hx]))).av) Qh Qh f3 f4
  replace M:=Mem.cast (M':=(A59++[])) M Za;obtain⟨v60,st60,ev60,⟨_,rfl,on60,sn60,zn60,an60,ln60,kkn60,A60,en60,rfl,hS60,hN60⟩,q60⟩:=M5 (R:=JX R0 A59) M.fresh (M.Mv (xu _) (fun x hx=>by simp[hx])) (fun c m x h=>by rcases h with h|h;exact h.elim;exact M.lt c m x (by simp[h])) (hW59.eu rfl hgB59) Qh Qh hE8 (fun p hp=>by have:=f3 p hp;omega) Qh;refine p1 K (Qe rfl ev60) fun _ K=>?_;replace M:=M.YN q60 hS60;have hp2:=Df (n:=n+1) Qh;have hp1:1≤2^(n+1):=Nat.one_le_two_pow;replace M:=Mem.cast (M':=(A59++(A60++[]))) M Za;refine au 4 K M ?_;intro c8 _ _ K _ M;refine Qz (k:=0) K M rfl rfl rfl Qi rfl (Qa rfl (Qa rfl (Qa rfl (Qa rfl (Qa hN60.ZU Qo))))) rfl fun _ M=>?_;refine Qc 3 K M fun _ K=>?_;refine p1 K (VE (c:=(((n:Nat):Int)+1)) Bz Ey rfl (IntWalk.u64_in _ Qh)) fun _ K=>p1 K (BQ (n:=(n+1)) rfl rfl Qh) fun _ K=>?_;refine Qc 6 K M fun _ K=>?_;refine p1 K (xY yD rfl rfl) fun _ K=>?_;refine oB K (Q9 rfl) rfl fun b73 _ e73 K=>?_;cases b73
  ·refine Qc 24 K M ?_
   exfalso
   by_cases hok:2^(n+1)-1≤2000
   ·rw[if_pos hok]at f5
    have hB:((((2^(n+1):Nat):Int)-1)≤2000):=by omega
    have f7:=f6 hok
    first|omega|(rw[f5,decide_eq_true hB]at e73;revert e73;decide)|(revert e73;rw[f5];simp[hB])
   ·rw[if_neg hok]at f5
    have hB: ¬((((2^(n+1):Nat):Int)-1)≤2000):=by omega
    first|omega|(rw[f5,decide_eq_false hB]at e73;revert e73;decide)|(revert e73;rw[f5];simp[hB])
  refine Qc 1 K M fun _ K=>?_;refine eI K rfl rfl (Q9 rfl) rfl (fun _ e75 K=>?_) fun _ e75 K=>?_
  ·refine Qc 4 K M fun _ K=>?_;refine Eh K rfl (fun _ e80 K=>?_) fun _ e80 K=>?_
   ·refine Qc 17 K M ?_
    exfalso
    by_cases hok:2^(n+1)-1≤2000
    ·rw[if_pos hok]at f5
     have hB:((((2^(n+1):Nat):Int)-1)≤2000):=by omega
     have f7:=f6 hok
     first|omega|(rw[f5,decide_eq_true hB]at e73;revert e73;decide)|(revert e73;rw[f5];simp[hB])
    ·rw[if_neg hok]at f5
     have hB: ¬((((2^(n+1):Nat):Int)-1)≤2000):=by omega
     first|omega|(rw[f5,decide_eq_false hB]at e73;revert e73;decide)|(revert e73;rw[f5];simp[hB])
   refine Qc 2 K M fun _ K=>?_;refine xl K rfl rfl (Q9 rfl) rfl fun b83 _ e83 K=>?_;cases b83
   ·replace e83:((((2^(n+1):Nat):Int)-1)≤2000):=by simpa using e83
    refine Qc 1 K M fun _ K=>?_
    have hX85:(Uw ⟨ds59,ps59,.mk om59 sm59 zm59 am59 lm59⟩).1=.mk (Uw ⟨ds59,ps59,.mk om59 sm59 zm59 am59 lm59⟩).1.op (Uw ⟨ds59,ps59,.mk om59 sm59 zm59 am59 lm59⟩).1.name (Uw ⟨ds59,ps59,.mk om59 sm59 zm59 am59 lm59⟩).1.Wn (Uw ⟨ds59,ps59,.mk om59 sm59 zm59 am59 lm59⟩).1.place (Uw ⟨ds59,ps59,.mk om59 sm59 zm59 am59 lm59⟩).1.kids:=by cases(Uw ⟨ds59,ps59,.mk om59 sm59 zm59 am59 lm59⟩).1;rfl
    rw[hX85]at hN60 f6;obtain⟨v85,st85,ev85,rfl,q85⟩:=Dd M.fresh (hN60.AP (fun c m x h=>by rcases h with(h|h)|h;exact h.elim;exact Jj.YQ (M.row c m x (by simp[h]));exact Jj.YQ (M.row c m x (by simp[h]))));refine pg K rfl rfl (Qe rfl ev85) fun _ K=>?_;replace M:=M.quiet q85;refine Qc 2 K M fun _ K=>?_;refine pg K rfl rfl (VE (c:=(((n:Nat):Int)+1)) Bz Ey rfl (IntWalk.u64_in _ Qh)) fun _ K=>pg K rfl rfl (BQ (n:=(n+1)) rfl rfl Qh) fun _ K=>?_;refine Qc 4 K M fun _ K=>?_;refine Eh K rfl (fun _ e94 K=>?_) fun _ e94 K=>?_
    ·refine Qc 3 K M ?_
     exfalso
     by_cases hok:2^(n+1)-1≤2000
     ·rw[if_pos hok]at f5
      have hB:((((2^(n+1):Nat):Int)-1)≤2000):=by omega
      have f7:=f6 hok
      first|omega|(rw[f5,decide_eq_true hB]at e73;revert e73;decide)|(revert e73;rw[f5];simp[hB])
     ·rw[if_neg hok]at f5
      have hB: ¬((((2^(n+1):Nat):Int)-1)≤2000):=by omega
      first|omega|(rw[f5,decide_eq_false hB]at e73;revert e73;decide)|(revert e73;rw[f5];simp[hB])
    have ev95:=BW;refine pg K rfl rfl (Qe rfl (ev95 _)) fun _ K=>?_;refine Qc 2 K M ?_;rfl
   replace e83: ¬((((2^(n+1):Nat):Int)-1)≤2000):=by simpa using e83
   refine Qc 11 K M fun _ K=>?_;have ev95:=BW;refine pg K rfl rfl (Qe rfl (ev95 _)) fun _ K=>?_;refine Qc 2 K M ?_;rfl
  refine Qc 7 K M fun _ K=>?_;refine xl K rfl rfl (Q9 rfl) rfl fun b83 _ e83 K=>?_;cases b83
  ·replace e83:((((2^(n+1):Nat):Int)-1)≤2000):=by simpa using e83
   refine Qc 1 K M fun _ K=>?_
   have hX85:(Uw ⟨ds59,ps59,.mk om59 sm59 zm59 am59 lm59⟩).1=.mk (Uw ⟨ds59,ps59,.mk om59 sm59 zm59 am59 lm59⟩).1.op (Uw ⟨ds59,ps59,.mk om59 sm59 zm59 am59 lm59⟩).1.name (Uw ⟨ds59,ps59,.mk om59 sm59 zm59 am59 lm59⟩).1.Wn (Uw ⟨ds59,ps59,.mk om59 sm59 zm59 am59 lm59⟩).1.place (Uw ⟨ds59,ps59,.mk om59 sm59 zm59 am59 lm59⟩).1.kids:=by cases(Uw ⟨ds59,ps59,.mk om59 sm59 zm59 am59 lm59⟩).1;rfl
   rw[hX85]at hN60 f6;obtain⟨v85,st85,ev85,rfl,q85⟩:=Dd M.fresh (hN60.AP (fun c m x h=>by rcases h with(h|h)|h;exact h.elim;exact Jj.YQ (M.row c m x (by simp[h]));exact Jj.YQ (M.row c m x (by simp[h]))));refine pg K rfl rfl (Qe rfl ev85) fun _ K=>?_;replace M:=M.quiet q85;refine Qc 2 K M fun _ K=>?_;refine pg K rfl rfl (VE (c:=(((n:Nat):Int)+1)) Bz Ey rfl (IntWalk.u64_in _ Qh)) fun _ K=>pg K rfl rfl (BQ (n:=(n+1)) rfl rfl Qh) fun _ K=>?_;refine Qc 4 K M fun _ K=>?_;refine Eh K rfl (fun _ e94 K=>?_) fun _ e94 K=>?_
   ·refine Qc 3 K M ?_
    exfalso
    by_cases hok:2^(n+1)-1≤2000
    ·rw[if_pos hok]at f5
     have hB:((((2^(n+1):Nat):Int)-1)≤2000):=by omega
     have f7:=f6 hok
     first|omega|(rw[f5,decide_eq_true hB]at e73;revert e73;decide)|(revert e73;rw[f5];simp[hB])
    ·rw[if_neg hok]at f5
     have hB: ¬((((2^(n+1):Nat):Int)-1)≤2000):=by omega
     first|omega|(rw[f5,decide_eq_false hB]at e73;revert e73;decide)|(revert e73;rw[f5];simp[hB])
   have ev95:=BW;refine pg K rfl rfl (Qe rfl (ev95 _)) fun _ K=>?_;refine Qc 2 K M ?_;rfl
  replace e83: ¬((((2^(n+1):Nat):Int)-1)≤2000):=by simpa using e83
  refine Qc 11 K M fun _ K=>?_;have ev95:=BW;refine pg K rfl rfl (Qe rfl (ev95 _)) fun _ K=>?_;refine Qc 2 K M ?_;rfl
 refine Qc 5 K M ?_;rfl
end
section

theorem LF(n:Int)(W:World)(hn: -9223372036854775808≤n∧n≤9223372036854775807)(hT:LK W):
  Calls Tryz.prog 3 #[.int .i64 n] W fun e w'=>e=.returned (.bool true)∧Below W.heap.size W w':=by
 have:=TQ (G:=QR) (fun _=>rfl) zF mixed (f:=3) (args:=[.int .i64 n]) (ml:=[]) Bs.nil (by simp[Z2,WF]) (OL (Gy []) n hn) hT;exact this
end
end Go.Proofs.YtaomhhkflohhgaaGreatDoor
