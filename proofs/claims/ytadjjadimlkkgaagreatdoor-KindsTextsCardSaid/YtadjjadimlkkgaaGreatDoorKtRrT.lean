/-
  The reader of 'sibylref2': 'Tokens', 'IsName'; the program's 'isName'.
-/
import Derived.Test.YtadjjadimlkkgaaGreatDoorKtTokEq
namespace Go.Proofs.YtadjjadimlkkgaaGreatDoor
open Go Go.RowKit
set_option maxHeartbeats 8000000
set_option linter.unusedVariables false
set_option linter.unusedSimpArgs false
set_option maxRecDepth 100000

theorem qb{st:St}(hf:Q3 st)(l:List Nat)(hl:l.length≤2000): ∃v st',Ev Tryz.prog Jg 76 [.str l] st v st'∧ ∃ks,v=.tup [ks,.int .i64 (JH (each (bytesOf l)).2)]∧BR st st' 2 ks ((each (bytesOf l)).1.map XP)∧Qt st st':=by
 have hlen:=E9 (bytesOf l) (bytesOf l).size 0;have hlen:(each (bytesOf l)).1.length≤(bytesOf l).size:=hlen;rw[JC]at hlen
 obtain⟨ks,st',h1,h2,h3⟩:=Oh (P:=Tryz.prog) (G:=Jg) (f:=76) (F:=G5) (z:=2) (ls:=(each (bytesOf l)).1.map XP) (rest:=[.int .i64 (JH (each (bytesOf l)).2)]) rfl hf (args:=[.str l]) (fun cs hc=>by
  obtain⟨x,_,rfl⟩:=List.mem_map.1 hc;rfl) (by simp;omega) (by
  unfold G5;simp only[Nat.ble_eq_true_of_le (show l.length≤100000 by omega),Jj,List.length_map]
  rfl)
 exact⟨_,st',h1,ks,rfl,h2,h3⟩
theorem Pb{st:St}(hf:Q3 st)(l:List Nat)(hb:(tokens (bytesOf l)).1.length≤1000000): ∃v st',Ev Tryz.prog Jg 72 [.str l] st v st'∧ ∃ks,v=.tup [ks,.int .i64 (tokens (bytesOf l)).2.1,.int .i64 (tokens (bytesOf l)).2.2]∧BR st st' 4 ks ((tokens (bytesOf l)).1.map Yq.cells)∧Qt st st':=by
 obtain⟨ks,st',h1,h2,h3⟩:=Oh (P:=Tryz.prog) (G:=Jg) (f:=72) (F:=Hy) (z:=4) (ls:=(tokens (bytesOf l)).1.map Yq.cells) (rest:=[.int .i64 (tokens (bytesOf l)).2.1,.int .i64 (tokens (bytesOf l)).2.2]) rfl hf (args:=[.str l]) (fun cs hc=>by
  obtain⟨x,_,rfl⟩:=List.mem_map.1 hc;rfl) (by simpa using hb) (by
  unfold Hy;simp only[List.length_map]
  rfl)
 exact⟨_,st',h1,ks,rfl,h2,h3⟩
theorem SU(s:ByteArray)(fin:Nat): ∀(f:Nat) (r:List (Nat×Nat)) (l:List Yq),(W4 s fin f r).1=some l→l.length≤r.length:=by
 intro f
 induction f with
 |zero=>intro r l h;injection h with h;subst h;simp
 |succ f ih=>
  intro r l h
  cases r with
  |nil=>injection h with h;subst h;simp
  |cons x r=>
   rw[W4]at h
   split at h
   ·rename_i hok;have hp:=KP s fin (x::r) hok;simp only at h
    cases hx:(W4 s fin f (((x::r).drop (V3 s fin (x::r)).len).drop (Jn false ((x::r).drop (V3 s fin (x::r)).len)))).1 with
    |none=>rw[hx]at h;cases h
    |some l'=>
     rw[hx]at h
     injection h with h
     subst h;have:=ih _ _ hx;simp only[List.length_drop,List.length_cons]at this ⊢;omega
   ·cases h
theorem FM(s:ByteArray):(tokens s).1.length≤2001:=by
 unfold tokens
 split
 ·simp
 ·rename_i hs;have hlen:=E9 s s.size 0;have hlen:(each s).1.length≤s.size:=hlen
  split
  ·simp
  ·rename_i l x h
   split
   ·simp
   ·have:=SU _ _ _ _ l (by rw[h]);simp only[List.length_drop,List.length_append,List.length_cons,List.length_nil]at this ⊢;omega
theorem Cn(l:List Nat)(bad:Option Nat)(L:List (Nat×Nat))(n:Nat): ∃k t m p,(Wv l bad L n).1=[.int .i64 k,.str t,.int .i64 m,.int .i64 p]:=by
 unfold Wv
 split
 ·exact⟨_,_,_,_,rfl⟩
 ·split
  ·exact⟨_,_,_,_,rfl⟩
  ·obtain⟨a,b,c,h⟩:=IY l bad L n;exact⟨a,b,0,c,h⟩
theorem Nl.new{st:St}{g:Nat}{l:List Nat}{ks:AV}(hl:l.length≤2000)(hr:JS st.h.get g 0 [.str l,ks,.int .i64 (JH (each (bytesOf l)).2),.int .i64 ((0:Nat):Int)])(hk:J8 st.h.get [g] 2 ((each (bytesOf l)).1.map XP) ks):Nl st.h.get g l ks (each (bytesOf l)).1 (each (bytesOf l)).2 0:=by
 have hlen:=E9 (bytesOf l) (bytesOf l).size 0;have hlen:(each (bytesOf l)).1.length≤(bytesOf l).size:=hlen;rw[JC]at hlen;refine⟨hr,hk,by omega,Nat.zero_le _,by omega,fun i j hij=>?_⟩;have:=Zw (bytesOf l) i j hij;rw[JC]at this;exact this
theorem Acc.apart{h0:Hp}{n0 n1 z:Nat}{X:List Nat}{st:St}{L A B:List (Nat×Nat×List AV)}{ks:AV}{ls:List (List AV)}(hM:Mem h0 n0 X st (L++(A++B)))(hA:Acc n1 z A ks ls){k c m:Nat}{l:List AV}(hk:L[k]? =some (c,m,l)):J8 st.h.get [c] z ls ks:=by
 have r:=hM.Gj hA
 cases hA with
 |none=>exact .nil _ _ _
 |own hc hz hb=>
  rename_i c' m';refine J8.own (hM.row c' m' _ (by simp)) hz ?_ (by omega);simp only[List.mem_singleton];intro e;subst e;have hn:=hM.nodup;rw[List.map_append,List.nodup_append]at hn;exact hn.2.2 c' (List.mem_map.2 ⟨_,List.mem_of_getElem? hk,rfl⟩) c' (by simp) rfl
theorem TM(x:Option (List Yq)×Nat):comb [] x=x:=by
 obtain⟨y1,y2⟩:=x
 cases y1<;>simp[comb]
theorem Gr{s:ByteArray}(h:2000<s.size):tokens s=([],0,3):=by rw[tokens,if_pos h]
theorem Dj{s:ByteArray}{p:Nat}(h: ¬2000<s.size)(hx:W4 s (J1 s (each s).2) ((each s).1.length+1) ((each s).1.drop (Jn false (each s).1))=(none,p)):tokens s=([],p,2):=by
 rw[tokens,if_neg h,hx]
theorem Dh{s:ByteArray}{a:List Yq}{p q:Nat}(h: ¬2000<s.size)(hx:W4 s (J1 s (each s).2) ((each s).1.length+1) ((each s).1.drop (Jn false (each s).1))=(some a,p))(hq:(each s).2=some q):tokens s=([],q,2):=by
 rw[tokens,if_neg h,hx];simp only[hq]
theorem Di{s:ByteArray}{a:List Yq}{p:Nat}(h: ¬2000<s.size)(hx:W4 s (J1 s (each s).2) ((each s).1.length+1) ((each s).1.drop (Jn false (each s).1))=(some a,p))(hq:(each s).2=none):tokens s=(a++[Ae s],s.size,0):=by
 rw[tokens,if_neg h,hx];simp only[hq]

theorem KZ{st:St}(hf:Q3 st)(l:List Nat)(hB:Bytes l): ∃v st',Ev Tryz.prog Jg 34 [.str l] st v st'∧ ∃ks,v=.tup [ks,.int .i64 (tokens (bytesOf l)).2.1,.int .i64 (tokens (bytesOf l)).2.2]∧BR st st' 4 ks ((tokens (bytesOf l)).1.map Yq.cells)∧Qt st st':=by
 have hEl:(each (bytesOf l)).1.length≤l.length:=by
  have h:=E9 (bytesOf l) (bytesOf l).size 0;have h:(each (bytesOf l)).1.length≤(bytesOf l).size:=h;rw[JC]at h;exact h
 have hmp:((each (bytesOf l)).1.map XP).length=(each (bytesOf l)).1.length:=by simp
 refine QG rfl Tryz.func34 rfl Tryz.ntmps34 rfl fun T hT=>?_;have K:Jk [(0,_)] T:=(.cons (hT 0) .nil);have M:=Mem.start hf;refine Qc 4 K M ?_;intro _ K;refine o1 K (XU UY rfl rfl) rfl fun _ K=>?_;refine Qc 1 K M ?_;intro _ K;refine Qj (K.QN rfl) (fun h12=>?_) (fun h12=>?_)
 · replace h12:=of_decide_eq_true h12;refine Qc 3 K M ?_;intro _ K;refine Qd ⟨.inr rfl,_,(JN (QQ K rfl) (QQ K rfl) (QQ K rfl)),?_⟩;rw[Gr (by rw[JC];omega)];exact⟨.nils,rfl,⟨[],.none,fun _ _ _ h=>by cases h⟩,M.qt⟩
 · replace h12:=of_decide_eq_false h12;refine Qc 1 K M ?_;intro _ K;refine o1 K (QH F0 rfl rfl) rfl fun _ K=>?_;refine JL K M rfl rfl (by decide) fun c15 _ _ K M=>?_;refine Qc 4 K M ?_;intro _ K;obtain⟨v20,st20,ev20,ks20,rfl,nr20,q20⟩:=qb M.fresh l (by omega);refine o1 K (Qg rfl ev20) rfl fun _ K=>?_;obtain⟨A20,hA20,M⟩:=M.Ah q20 nr20;refine Qc 5 K M ?_;intro _ K;refine N6 (k:=0) K M rfl rfl rfl F6 (hA20.cell) rfl fun _ M=>?_;refine au 5 K M ?_;intro _ _ K _ M;obtain⟨v28,st28,ev28,rfl,q28,r28⟩:=G8 M.fresh (Nl.new (by omega) (M.Qr (k:=0) rfl) (Acc.apart (L:=[(c15,0,[.str l,ks20,.int .i64 (JH (each (bytesOf l)).2),.int .i64 0])]) (A:=A20) (B:=[]) M hA20 (k:=0) rfl));refine o1 K (Qg rfl ev28) rfl fun _ K=>?_;have hrow28:=r28.row;have hle28:=r28.le;replace M:=M.JV (k:=0) rfl q28 hrow28;refine Q5 ?_;show W _ _ _ _ _ _ _;refine UN ?_;refine JX (fun mm1 T st9=> ∃(k f:Nat) (acc:List Yq) (ks:AV) (A:List (Nat×Nat×List AV)),mm1=(each (bytesOf l)).1.length-k∧Jk [(0,.str l),(5,.ptr c15 0 0),(6,ks)] T∧Mem st.h.get st.n [] st9 ((c15,0,[.str l,ks20,.int .i64 (JH (each (bytesOf l)).2),.int .i64 (((k:Nat):Int))])::(A20++(A++[])))∧Acc st.n 4 A ks (acc.map Yq.cells)∧k≤(each (bytesOf l)).1.length∧acc.length≤k∧comb acc (W4 (bytesOf l) (J1 (bytesOf l) (each (bytesOf l)).2) f ((each (bytesOf l)).1.drop k))=W4 (bytesOf l) (J1 (bytesOf l) (each (bytesOf l)).2) ((each (bytesOf l)).1.length+1) ((each (bytesOf l)).1.drop (Jn false (each (bytesOf l)).1))∧(each (bytesOf l)).1.length<k+f) (fun mm1 T st9 hI=>?_) _ _ _ ⟨0+Jn false ((each (bytesOf l)).1.drop 0),(each (bytesOf l)).1.length+1,[],.nils,[],rfl,(.cons (K _ _ rfl) (.cons (K _ _ rfl) (.cons (K _ _ rfl) .nil))),M.less (.refl _),.none,r28.le,(Nat.zero_le _),(by rw[TM,Nat.zero_add,List.drop_zero]),(by omega)⟩;obtain⟨k,f,acc,ks,A,rfl,K,M,hA,hk,hacc,hinv,hf⟩:=hI;refine Qw<|Qw ?_;refine Jr (l:=[(0,0),(1,0),(2,0),(3,0),(4,0),(5,0),(6,0),(7,0),(8,0),(9,0)]) (by kernel_rfl) ?_;refine d1 rfl K (Qb rfl) rfl rfl fun _ K=>d1 rfl K (JY rfl rfl) rfl rfl fun _ K=>d1 rfl K (Qf Jq rfl) rfl rfl fun _ K=>d1 rfl K (Qq rfl (M.load (k:=0) rfl (Ql QA rfl))) rfl rfl fun _ K=>d1 rfl K (Qb rfl) rfl rfl fun _ K=>d1 rfl K (JY rfl rfl) rfl rfl fun _ K=>d1 rfl K (Qf J9 rfl) rfl rfl fun _ K=>d1 rfl K (Qq rfl (M.load (k:=0) rfl (Ql U5 rfl))) rfl rfl fun _ K=>d1 rfl K (QP Z1 rfl rfl hA20.len) rfl rfl fun _ K=>?_;refine d1 rfl K (I9 rfl rfl) rfl rfl fun _ K=>J4 ?_;show W _ _ _ _ _ _ _;refine Qj (K.QN rfl) (fun h38=>?_) (fun h38=>?_)
   ·replace h38:=of_decide_eq_true h38;refine Qc 1 K M ?_;intro _ K;refine oQ K M (Dw M.fresh (r28.next (M.Qr (k:=0) rfl) (Acc.apart (L:=[(c15,0,[.str l,ks20,.int .i64 (JH (each (bytesOf l)).2),.int .i64 (((k:Nat):Int))])]) (A:=A20) (B:=(A++[])) M hA20 (k:=0) rfl) (by omega)) (by omega)) rfl rfl fun _ _ K M=>?_;refine Qc 2 K M ?_;intro _ K;obtain⟨tk,tt,tm,tp,hsc⟩:=Cn l (each (bytesOf l)).2 (each (bytesOf l)).1 k;obtain⟨v45,st45,ev45,rfl,q45,r45⟩:=hsc▸Pu M.fresh (r28.next (M.Qr (k:=0) rfl) (Acc.apart (L:=[(c15,0,[.str l,ks20,.int .i64 (JH (each (bytesOf l)).2),.int .i64 (((k:Nat):Int))])]) (A:=A20) (B:=(A++[])) M hA20 (k:=0) rfl) (by omega)) (by omega);refine o1 K (Qg rfl ev45) rfl fun _ K=>?_;have hrow45:=r45.row;have hle45:=r45.le;replace M:=M.JV (k:=0) rfl q45 hrow45;refine au 8 K M ?_;intro c8 _ _ K _ M;refine Qj (K.QN rfl) (fun h49=>?_) (fun h49=>?_)
    ·replace h49:((Wv l (each (bytesOf l)).2 (each (bytesOf l)).1 k).2.1)=false:=by simpa using h49
     refine Qc 4 K M ?_;intro _ K;refine Qd ⟨.inr rfl,_,(JN (QQ K rfl) (QQ K rfl) (QQ K rfl)),?_⟩;obtain⟨f,rfl⟩: ∃f',f=f'+1:=⟨f-1,by omega⟩;obtain⟨te1,te2⟩:=RK hB (n:=k) (by omega);rw[h49]at te1;rw[B6 _ _ _ _ _ (by rw[List.length_drop];omega) te1.symm]at hinv;rw[Dj (by rw[JC];omega) hinv.symm,Zv,Nat.add_zero];exact⟨.nils,rfl,⟨[],.none,fun _ _ _ h=>by cases h⟩,M.qt⟩
    ·replace h49:((Wv l (each (bytesOf l)).2 (each (bytesOf l)).1 k).2.1)=true:=by simpa using h49
     refine Qc 2 K M ?_;intro _ K;refine ZJ K M XN Zq rfl rfl rfl rfl rfl fun c53 _ _ K M=>?_;refine VZ (k2:=0) (L:=((c53,0,[.int .i64 tk,.str tt,.int .i64 tm,.int .i64 tp])::(c8,0,[.int .i64 tk,.str tt,.int .i64 tm,.int .i64 tp])::(c15,0,[.str l,ks20,.int .i64 (JH (each (bytesOf l)).2),.int .i64 ((((k+(Wv l (each (bytesOf l)).2 (each (bytesOf l)).1 k).2.2):Nat):Int))])::(A20++[]))) (A:=A) (B:=[]) K (Mem.cast (M:=((c53,0,[.int .i64 tk,.str tt,.int .i64 tm,.int .i64 tp])::(c8,0,[.int .i64 tk,.str tt,.int .i64 tm,.int .i64 tp])::(c15,0,[.str l,ks20,.int .i64 (JH (each (bytesOf l)).2),.int .i64 ((((k+(Wv l (each (bytesOf l)).2 (each (bytesOf l)).1 k).2.2):Nat):Int))])::(A20++(A++[])))) (M':=((c53,0,[.int .i64 tk,.str tt,.int .i64 tm,.int .i64 tp])::(c8,0,[.int .i64 tk,.str tt,.int .i64 tm,.int .i64 tp])::(c15,0,[.str l,ks20,.int .i64 (JH (each (bytesOf l)).2),.int .i64 ((((k+(Wv l (each (bytesOf l)).2 (each (bytesOf l)).1 k).2.2):Nat):Int))])::(A20++[]))++(A++[])) M (by simp only[List.append_assoc,List.cons_append,List.nil_append,List.append_nil])) hA XN rfl rfl rfl rfl (by simp only[List.length_map];omega) rfl fun ks54 A54 _ _ K hA54 M=>?_;replace M:=Mem.cast (M:=((c53,0,[.int .i64 tk,.str tt,.int .i64 tm,.int .i64 tp])::(c8,0,[.int .i64 tk,.str tt,.int .i64 tm,.int .i64 tp])::(c15,0,[.str l,ks20,.int .i64 (JH (each (bytesOf l)).2),.int .i64 ((((k+(Wv l (each (bytesOf l)).2 (each (bytesOf l)).1 k).2.2):Nat):Int))])::(A20++[]))++(A54++[])) (M':=((c53,0,[.int .i64 tk,.str tt,.int .i64 tm,.int .i64 tp])::(c8,0,[.int .i64 tk,.str tt,.int .i64 tm,.int .i64 tp])::(c15,0,[.str l,ks20,.int .i64 (JH (each (bytesOf l)).2),.int .i64 ((((k+(Wv l (each (bytesOf l)).2 (each (bytesOf l)).1 k).2.2):Nat):Int))])::(A20++(A54++[])))) M (by simp only[List.append_assoc,List.cons_append,List.nil_append,List.append_nil]);refine Qc 2 K M ?_;intro _ K;obtain⟨v40,st40,ev40,rfl,q40,r40⟩:=G8 M.fresh (r28.next (M.Qr (k:=2) rfl) (Acc.apart (L:=[(c53,0,[.int .i64 tk,.str tt,.int .i64 tm,.int .i64 tp]),(c8,0,[.int .i64 tk,.str tt,.int .i64 tm,.int .i64 tp]),(c15,0,[.str l,ks20,.int .i64 (JH (each (bytesOf l)).2),.int .i64 ((((k+(Wv l (each (bytesOf l)).2 (each (bytesOf l)).1 k).2.2):Nat):Int))])]) (A:=A20) (B:=(A54++[])) M hA20 (k:=2) rfl) (by omega));refine o1 K (Qg rfl ev40) rfl fun _ K=>?_;have hrow40:=r40.row;have hle40:=r40.le;replace M:=M.JV (k:=2) rfl q40 hrow40;refine Q5 ?_;obtain⟨f,rfl⟩: ∃f',f=f'+1:=⟨f-1,by omega⟩;obtain⟨te1,te2⟩:=RK hB (n:=k) (by omega);rw[h49]at te1;replace te2:=te2 te1.symm;have tp1:=KP _ _ _ te1.symm;have hr40:=r40.le;rw[DL _ _ _ _ _ (by rw[List.length_drop];omega) te1.symm]at hinv;simp only[List.drop_drop]at hinv;rw[←te2.2]at hinv;exact⟨_,(by omega),_,f,acc++[V3 (bytesOf l) (J1 (bytesOf l) (each (bytesOf l)).2) ((each (bytesOf l)).1.drop k)],ks54,A54,rfl,(.cons (K _ _ rfl) (.cons (K _ _ rfl) (.cons (K _ _ rfl) .nil))),M.less (.cons _ (.cons _ (.refl _))),(by rw[List.map_append,List.map_singleton,←te2.1,hsc];exact hA54),hr40,(by simp;omega),(by simpa only[Nat.add_comm,Nat.add_left_comm,Nat.add_assoc]using hinv),(by omega)⟩
   ·replace h38:=of_decide_eq_false h38;refine JJ ?_;show W _ _ _ _ _ _ _;refine Qc 5 K M ?_;intro _ K;refine Qj (K.QN rfl) (fun h59=>?_) (fun h59=>?_)
    ·replace h59:=of_decide_eq_true h59;refine Qw ?_;refine Jr (l:=[(0,0),(1,0),(2,0),(3,0),(4,0),(5,0),(6,0)]) (by kernel_rfl) ?_;refine d1 rfl K (Qb rfl) rfl rfl fun _ K=>d1 rfl K (JY rfl rfl) rfl rfl fun _ K=>d1 rfl K (Qf ZA rfl) rfl rfl fun _ K=>d1 rfl K (Qq rfl (M.load (k:=0) rfl (Ql QA rfl))) rfl rfl fun _ K=>d1 rfl K (Qu rfl) rfl rfl fun _ K=>d1 rfl K (Qu rfl) rfl rfl fun _ K=>d1 rfl K (Qu rfl) rfl rfl fun _ K=>J4 ?_;show W _ _ _ _ _ _ _;refine Qd ⟨.inr rfl,_,(JN (QQ K rfl) (QQ K rfl) (QQ K rfl)),?_⟩;rw[show(each (bytesOf l)).1.drop k=[]from List.drop_eq_nil_of_le (by omega),LS]at hinv;obtain⟨q,hq⟩:=Il h59;rw[Dh (by rw[JC];omega) hinv.symm hq,hq];exact⟨.nils,rfl,⟨[],.none,fun _ _ _ h=>by cases h⟩,M.qt⟩
    ·replace h59:=of_decide_eq_false h59;refine Qc 2 K M ?_;intro _ K;refine o1 K (XU UY rfl rfl) rfl fun _ K=>o1 K (QH Zt rfl rfl) rfl fun _ K=>?_;refine ZJ K M XN Zq rfl rfl rfl rfl rfl fun c68 _ _ K M=>?_;refine VZ (k2:=0) (L:=((c68,0,[.int .i64 4,.str [],.int .i64 0,.int .i64 ((((l).length:Nat):Int))])::(c15,0,[.str l,ks20,.int .i64 (JH (each (bytesOf l)).2),.int .i64 (((k:Nat):Int))])::(A20++[]))) (A:=A) (B:=[]) K (Mem.cast (M:=((c68,0,[.int .i64 4,.str [],.int .i64 0,.int .i64 ((((l).length:Nat):Int))])::(c15,0,[.str l,ks20,.int .i64 (JH (each (bytesOf l)).2),.int .i64 (((k:Nat):Int))])::(A20++(A++[])))) (M':=((c68,0,[.int .i64 4,.str [],.int .i64 0,.int .i64 ((((l).length:Nat):Int))])::(c15,0,[.str l,ks20,.int .i64 (JH (each (bytesOf l)).2),.int .i64 (((k:Nat):Int))])::(A20++[]))++(A++[])) M (by simp only[List.append_assoc,List.cons_append,List.nil_append,List.append_nil])) hA XN rfl rfl rfl rfl (by simp only[List.length_map];omega) rfl fun ks69 A69 _ _ K hA69 M=>?_;replace M:=Mem.cast (M:=((c68,0,[.int .i64 4,.str [],.int .i64 0,.int .i64 ((((l).length:Nat):Int))])::(c15,0,[.str l,ks20,.int .i64 (JH (each (bytesOf l)).2),.int .i64 (((k:Nat):Int))])::(A20++[]))++(A69++[])) (M':=((c68,0,[.int .i64 4,.str [],.int .i64 0,.int .i64 ((((l).length:Nat):Int))])::(c15,0,[.str l,ks20,.int .i64 (JH (each (bytesOf l)).2),.int .i64 (((k:Nat):Int))])::(A20++(A69++[])))) M (by simp only[List.append_assoc,List.cons_append,List.nil_append,List.append_nil]);refine o1 K (Qb rfl) rfl fun _ K=>o1 K (XU UY rfl rfl) rfl fun _ K=>?_;refine Qc 3 K M ?_;intro _ K;refine Qd ⟨.inr rfl,_,(JN (QQ K rfl) (QQ K rfl) (QQ K rfl)),?_⟩;rw[show(each (bytesOf l)).1.drop k=[]from List.drop_eq_nil_of_le (by omega),LS]at hinv;rw[Di (by rw[JC];omega) hinv.symm (Im h59),JC];refine⟨_,rfl,?_,M.qt⟩;rw[List.map_append]
     have hE:[Ae (bytesOf l)].map Yq.cells=[[.int .i64 4,.str [],.int .i64 0,.int .i64 (l.length:Int)]]:=by simp[Ae,Yq.cells,JC,Yu]
     rw[hE];exact Mem.jG (L:=((c68,0,[.int .i64 4,.str [],.int .i64 0,.int .i64 ((((l).length:Nat):Int))])::(c15,0,[.str l,ks20,.int .i64 (JH (each (bytesOf l)).2),.int .i64 (((k:Nat):Int))])::(A20++[]))) (A:=A69) (B:=[]) (Mem.cast (M:=((c68,0,[.int .i64 4,.str [],.int .i64 0,.int .i64 ((((l).length:Nat):Int))])::(c15,0,[.str l,ks20,.int .i64 (JH (each (bytesOf l)).2),.int .i64 (((k:Nat):Int))])::(A20++(A69++[])))) (M':=((c68,0,[.int .i64 4,.str [],.int .i64 0,.int .i64 ((((l).length:Nat):Int))])::(c15,0,[.str l,ks20,.int .i64 (JH (each (bytesOf l)).2),.int .i64 (((k:Nat):Int))])::(A20++[]))++(A69++[])) M (by simp only[List.append_assoc,List.cons_append,List.nil_append,List.append_nil])) hA69
end Go.Proofs.YtadjjadimlkkgaaGreatDoor
