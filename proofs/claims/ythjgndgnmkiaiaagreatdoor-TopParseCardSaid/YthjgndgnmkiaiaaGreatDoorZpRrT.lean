/-
  The reader of 'sibylref2': 'Tokens', 'IsName'; the program's 'isName'.
-/
import Derived.Test.YthjgndgnmkiaiaaGreatDoorZpTokEq
namespace Go.Proofs.YthjgndgnmkiaiaaGreatDoor
open Go Go.RowKit
set_option maxHeartbeats 8000000
set_option linter.unusedVariables false
set_option linter.unusedSimpArgs false
set_option maxRecDepth 100000
variable {p:Nat} {st:St}

theorem eM(hf:Q3 st)(l:List Nat)(hl:l.length≤2000): ∃v st',Ev Tryz.prog JF 49 [.str l] st v st'∧ ∃ks,v=.tup [ks,.int .i64 (Jx (each (bytesOf l)).2)]∧TW st st' 2 ks ((each (bytesOf l)).1.map XK)∧Qt st st':=by
 have hlen:=E9 (bytesOf l) (bytesOf l).size 0;have hlen:(each (bytesOf l)).1.length≤(bytesOf l).size:=hlen;rw[Jd]at hlen
 obtain⟨ks,st',h1,h2,h3⟩:=BN (P:=Tryz.prog) (G:=JF) (f:=49) (F:=Pn) (z:=2) (ls:=(each (bytesOf l)).1.map XK) (rest:=[.int .i64 (Jx (each (bytesOf l)).2)]) rfl hf (args:=[.str l]) (fun cs hc=>by
  obtain⟨x,_,rfl⟩:=List.mem_map.1 hc;rfl) (by simp;omega) (by
  unfold Pn;simp only[Nat.ble_eq_true_of_le (show l.length≤100000 by omega),QN,List.length_map]
  rfl)
 exact⟨_,st',h1,ks,rfl,h2,h3⟩
theorem qI(hf:Q3 st)(l:List Nat)(hb:(tokens (bytesOf l)).1.length≤1000000): ∃v st',Ev Tryz.prog JF 14 [.str l] st v st'∧ ∃ks,v=.tup [ks,.int .i64 (tokens (bytesOf l)).2.1,.int .i64 (tokens (bytesOf l)).2.2]∧TW st st' 4 ks ((tokens (bytesOf l)).1.map Uy.cells)∧Qt st st':=by
 obtain⟨ks,st',h1,h2,h3⟩:=BN (P:=Tryz.prog) (G:=JF) (f:=14) (F:=I7) (z:=4) (ls:=(tokens (bytesOf l)).1.map Uy.cells) (rest:=[.int .i64 (tokens (bytesOf l)).2.1,.int .i64 (tokens (bytesOf l)).2.2]) rfl hf (args:=[.str l]) (fun cs hc=>by
  obtain⟨x,_,rfl⟩:=List.mem_map.1 hc;rfl) (Nat.le_trans (by simpa using hb) (by decide:(1000000:Nat)≤1000000000)) (by
  unfold I7;simp only[List.length_map]
  rfl)
 exact⟨_,st',h1,ks,rfl,h2,h3⟩
theorem zY(s:ByteArray)(fin:Nat): ∀(f:Nat) (r:List (Nat×Nat)) (l:List Uy),(XZ s fin f r).1=some l→l.length≤r.length:=by
 intro f
 induction f with
 |zero=>intro r l h;injection h with h;subst h;simp
 |succ f ih=>
  intro r l h
  cases r with
  |nil=>injection h with h;subst h;simp
  |cons x r=>
   rw[XZ]at h
   split at h
   ·rename_i hok;have hp:=NA s fin (x::r) hok;simp only at h
    cases hx:(XZ s fin f (((x::r).drop (Zn s fin (x::r)).len).drop (QC false ((x::r).drop (Zn s fin (x::r)).len)))).1 with
    |none=>rw[hx]at h;cases h
    |some l'=>
     rw[hx]at h
     injection h with h
     subst h;have:=ih _ _ hx;simp only[List.length_drop,List.length_cons]at this ⊢;omega
   ·cases h
theorem Hr(s:ByteArray):(tokens s).1.length≤2001:=by
 unfold tokens
 split
 ·simp
 ·rename_i hs;have hlen:=E9 s s.size 0;have hlen:(each s).1.length≤s.size:=hlen
  split
  ·simp
  ·rename_i l x h
   split
   ·simp
   ·have:=zY _ _ _ _ l (by rw[h]);simp only[List.length_drop,List.length_append,List.length_cons,List.length_nil]at this ⊢;omega
theorem SD(l:List Nat)(bad:Option Nat)(L:List (Nat×Nat))(n:Nat): ∃k t m p,(En l bad L n).1=[.int .i64 k,.str t,.int .i64 m,.int .i64 p]:=by
 unfold En
 split
 ·exact⟨_,_,_,_,rfl⟩
 ·split
  ·exact⟨_,_,_,_,rfl⟩
  ·obtain⟨a,b,c,h⟩:=Ly l bad L n;exact⟨a,b,0,c,h⟩
theorem Gw.new{g:Nat}{l:List Nat}{ks:AV}(hl:l.length≤2000)(hr:J5 st.h.get g 0 [.str l,ks,.int .i64 (Jx (each (bytesOf l)).2),.int .i64 ((0:Nat):Int)])(hk:Ja st.h.get [g] 2 ((each (bytesOf l)).1.map XK) ks):Gw st.h.get g l ks (each (bytesOf l)).1 (each (bytesOf l)).2 0:=by
 have hlen:=E9 (bytesOf l) (bytesOf l).size 0;have hlen:(each (bytesOf l)).1.length≤(bytesOf l).size:=hlen;rw[Jd]at hlen;refine⟨hr,hk,by omega,Nat.zero_le _,by omega,fun i j hij=>?_⟩;have:=Zj (bytesOf l) i j hij;rw[Jd]at this;exact this
theorem Acc.apart{h0:Hp}{n0 n1 z:Nat}{X:List Nat}{L A B:List (Nat×Nat×List AV)}{ks:AV}{ls:List (List AV)}(hM:Mem h0 n0 X st (L++(A++B)))(hA:Acc n1 z A ks ls){k c m:Nat}{l:List AV}(hk:L[k]? =some (c,m,l)):Ja st.h.get [c] z ls ks:=by
 have r:=hM.ag hA
 cases hA with
 |none=>exact .nil _ _ _
 |own hc hz hb=>
  rename_i c' m';refine Ja.own (hM.row c' m' _ Q1) hz ?_ Qk;simp only[List.mem_singleton];intro e;subst e;have hn:=hM.nodup;rw[List.map_append,List.nodup_append]at hn;exact hn.2.2 c' (List.mem_map.2 ⟨_,List.mem_of_getElem? hk,rfl⟩) c' Q1 rfl
theorem RE(x:Option (List Uy)×Nat):comb [] x=x:=by
 obtain⟨y1,y2⟩:=x
 cases y1<;>simp[comb]
theorem Iu{s:ByteArray}(h:2000<s.size):tokens s=([],0,3):=by rw[tokens,if_pos h]
theorem Cr{s:ByteArray}(h: ¬2000<s.size)(hx:XZ s (QT s (each s).2) ((each s).1.length+1) ((each s).1.drop (QC false (each s).1))=(none,p)):tokens s=([],p,2):=by
 rw[tokens,if_neg h,hx]
theorem Cp{s:ByteArray}{a:List Uy}{q:Nat}(h: ¬2000<s.size)(hx:XZ s (QT s (each s).2) ((each s).1.length+1) ((each s).1.drop (QC false (each s).1))=(some a,p))(hq:(each s).2=some q):tokens s=([],q,2):=by
 rw[tokens,if_neg h,hx];simp only[hq]
theorem Nf{s:ByteArray}{a:List Uy}(h: ¬2000<s.size)(hx:XZ s (QT s (each s).2) ((each s).1.length+1) ((each s).1.drop (QC false (each s).1))=(some a,p))(hq:(each s).2=none):tokens s=(a++[Wy s],s.size,0):=by
 rw[tokens,if_neg h,hx];simp only[hq]

theorem SC(hf:Q3 st)(l:List Nat)(hB:Bytes l): ∃v st',Ev Tryz.prog JF 24 [.str l] st v st'∧ ∃ks,v=.tup [ks,iZ (tokens (bytesOf l)).2.1,iZ (tokens (bytesOf l)).2.2]∧TW st st' 4 ks ((tokens (bytesOf l)).1.map Uy.cells)∧Qt st st':=by
 have hEl:(each (bytesOf l)).1.length≤l.length:=by
  have h:=E9 (bytesOf l) (bytesOf l).size 0;have h:(each (bytesOf l)).1.length≤(bytesOf l).size:=h;rw[Jd]at h;exact h
 have hmp:((each (bytesOf l)).1.map XK).length=(each (bytesOf l)).1.length:=by simp
 refine XB Tryz.func24 Tryz.ntmps24 fun T K=>?_;have M:=Mem.start hf;refine Qg 4 K M fun _ K=>?_;refine p1 K (Ad ZQ rfl rfl) fun _ K=>?_;refine Qg 1 K M fun _ K=>?_;refine Zb K rfl (fun h12=>?_) fun h12=>?_
 · replace h12:=of_decide_eq_true h12;refine Qg 3 K M fun _ K=>?_;refine UR ⟨.inr rfl,_,(Vj (JX K rfl) (JX K rfl) (JX K rfl)),?_⟩;rw[Iu (by rw[Jd];omega)];exact⟨.nils,rfl,⟨[],.none,fun _ _ _ h=>by cases h⟩,M.qt⟩
 · replace h12:=of_decide_eq_false h12;refine au 7 K M ?_;intro c15 _ _ K _ M;obtain⟨v20,st20,ev20,ks20,rfl,nr20,q20⟩:=eM M.fresh l Qk;refine p1 K (Qh rfl ev20) fun _ K=>?_;obtain⟨A20,hA20,M⟩:=M.Nz q20 nr20;refine Qg 5 K M fun _ K=>?_;refine qx (k:=0) K M rfl rfl rfl FY (hA20.cell) rfl fun _ M=>?_;refine au 5 K M ?_;intro _ _ K _ M;obtain⟨v28,st28,ev28,rfl,q28,r28⟩:=Pq M.fresh (Gw.new Qk (M.Qv (k:=0) rfl) (Acc.apart (L:=[(c15,0,[.str l,ks20,iZ (Jx (each (bytesOf l)).2),iZ 0])]) (B:=[]) M hA20 (k:=0) rfl));refine p1 K (Qh rfl ev28) fun _ K=>?_;have hrow28:=r28.row;have hle28:=r28.le;replace M:=M.Yl (k:=0) rfl q28 hrow28;refine Qg 0 K M fun _ K=>?_;refine UE (fun mm1 T st9=> ∃(k f:Nat) (acc:List Uy) (ks:AV) (A:List (Nat×Nat×List AV)),mm1=(each (bytesOf l)).1.length-k∧Jn [(0,.str l),(5,.ptr c15 0 0),(6,ks)] T∧Mem st.h.get st.n [] st9 ((c15,0,[.str l,ks20,iZ (Jx (each (bytesOf l)).2),iN k])::(A20++(A++[])))∧Acc st.n 4 A ks (acc.map Uy.cells)∧k≤(each (bytesOf l)).1.length∧acc.length≤k∧comb acc (XZ (bytesOf l) (QT (bytesOf l) (each (bytesOf l)).2) f ((each (bytesOf l)).1.drop k))=XZ (bytesOf l) (QT (bytesOf l) (each (bytesOf l)).2) ((each (bytesOf l)).1.length+1) ((each (bytesOf l)).1.drop (QC false (each (bytesOf l)).1))∧(each (bytesOf l)).1.length<k+f) (fun mm1 T st9 hI=>?_) _ _ _ ⟨0+QC false ((each (bytesOf l)).1.drop 0),(each (bytesOf l)).1.length+1,[],.nils,[],rfl,(K.sub rfl),M.less (.refl _),.none,r28.le,(Nat.zero_le _),(by rw[RE,Nat.zero_add,List.drop_zero]),Qk⟩;obtain⟨k,f,acc,ks,A,rfl,K,M,hA,hk,hacc,hinv,hf⟩:=hI;refine JK<|JK ?_;refine QU (l:=[(0,0),(1,0),(2,0),(3,0),(4,0),(5,0),(6,0),(7,0),(8,0),(9,0)]) (by kernel_rfl) ?_;refine Ue 8 K M fun _ K=>?_;refine q1 rfl K (Jp YE rfl rfl hA20.len) fun _ K=>q1 rfl K (Ta rfl rfl) fun _ K=>QZ ?_;show W _ _ _ _ _ _ _;refine Zb K rfl (fun h38=>?_) fun h38=>?_
   ·replace h38:=of_decide_eq_true h38;refine Qg 1 K M fun _ K=>?_;refine oQ K M (M3 M.fresh (r28.next (M.Qv (k:=0) rfl) (Acc.apart (L:=[(c15,0,[.str l,ks20,iZ (Jx (each (bytesOf l)).2),iN k])]) (B:=(A++[])) M hA20 (k:=0) rfl) Qk) Qk) rfl rfl fun _ _ K M=>?_;refine Qg 2 K M fun _ K=>?_;obtain⟨tk,tt,tm,tp,hsc⟩:=SD l (each (bytesOf l)).2 (each (bytesOf l)).1 k;obtain⟨v45,st45,ev45,rfl,q45,r45⟩:=hsc▸qZ M.fresh (r28.next (M.Qv (k:=0) rfl) (Acc.apart (L:=[(c15,0,[.str l,ks20,iZ (Jx (each (bytesOf l)).2),iN k])]) (B:=(A++[])) M hA20 (k:=0) rfl) Qk) Qk;refine p1 K (Qh rfl ev45) fun _ K=>?_;have hrow45:=r45.row;have hle45:=r45.le;replace M:=M.Yl (k:=0) rfl q45 hrow45;refine au 8 K M ?_;intro c8 _ _ K _ M;refine Zb K rfl (fun h49=>?_) fun h49=>?_
    ·replace h49:((En l (each (bytesOf l)).2 (each (bytesOf l)).1 k).2.1)=false:=by simpa using h49
     refine Qg 4 K M fun _ K=>?_;refine UR ⟨.inr rfl,_,(Vj (JX K rfl) (JX K rfl) (JX K rfl)),?_⟩;obtain⟨f,rfl⟩: ∃f',f=f'+1:=⟨f-1,by omega⟩;obtain⟨te1,te2⟩:=uW hB (n:=k) Qk;rw[h49]at te1;rw[RF _ _ _ _ _ (by rw[List.length_drop];omega) te1.symm]at hinv;rw[Cr (by rw[Jd];omega) hinv.symm,Zi,Nat.add_zero];exact⟨.nils,rfl,⟨[],.none,fun _ _ _ h=>by cases h⟩,M.qt⟩
    ·replace h49:((En l (each (bytesOf l)).2 (each (bytesOf l)).1 k).2.1)=true:=by simpa using h49
     refine au 3 K M ?_;intro c53 _ _ K _ M;refine F1 (k2:=0) (L:=((c53,0,[iZ tk,.str tt,iZ tm,iZ tp])::(c8,0,[iZ tk,.str tt,iZ tm,iZ tp])::(c15,0,[.str l,ks20,iZ (Jx (each (bytesOf l)).2),iZ (k+(En l (each (bytesOf l)).2 (each (bytesOf l)).1 k).2.2:Nat)])::(A20++[]))) (B:=[]) K (Mem.cast M (by simp only[List.append_assoc,List.cons_append,List.nil_append,List.append_nil]<;>rfl)) hA Wh rfl rfl rfl rfl (by simp only[List.length_map];omega) rfl fun ks54 A54 _ _ K hA54 M=>?_;replace M:=Mem.cast (M':=((c53,0,[iZ tk,.str tt,iZ tm,iZ tp])::(c8,0,[iZ tk,.str tt,iZ tm,iZ tp])::(c15,0,[.str l,ks20,iZ (Jx (each (bytesOf l)).2),iZ (k+(En l (each (bytesOf l)).2 (each (bytesOf l)).1 k).2.2:Nat)])::(A20++(A54++[])))) M (by simp only[List.append_assoc,List.cons_append,List.nil_append,List.append_nil]);refine Qg 2 K M fun _ K=>?_;obtain⟨v40,st40,ev40,rfl,q40,r40⟩:=Pq M.fresh (r28.next (M.Qv (k:=2) rfl) (Acc.apart (L:=[(c53,0,[iZ tk,.str tt,iZ tm,iZ tp]),(c8,0,[iZ tk,.str tt,iZ tm,iZ tp]),(c15,0,[.str l,ks20,iZ (Jx (each (bytesOf l)).2),iZ (k+(En l (each (bytesOf l)).2 (each (bytesOf l)).1 k).2.2:Nat)])]) (B:=(A54++[])) M hA20 (k:=2) rfl) Qk);refine p1 K (Qh rfl ev40) fun _ K=>?_;have hrow40:=r40.row;have hle40:=r40.le;replace M:=M.Yl (k:=2) rfl q40 hrow40;refine Xr ?_;obtain⟨f,rfl⟩: ∃f',f=f'+1:=⟨f-1,by omega⟩;obtain⟨te1,te2⟩:=uW hB (n:=k) Qk;rw[h49]at te1;replace te2:=te2 te1.symm;have tp1:=NA _ _ _ te1.symm;have hr40:=r40.le;rw[Dz _ _ _ _ _ (by rw[List.length_drop];omega) te1.symm]at hinv;simp only[List.drop_drop]at hinv;rw[←te2.2]at hinv;exact⟨_,Qk,_,f,acc++[Zn (bytesOf l) (QT (bytesOf l) (each (bytesOf l)).2) ((each (bytesOf l)).1.drop k)],ks54,A54,rfl,(K.sub rfl),M.less (.cons _ (.cons _ (.refl _))),(by rw[List.map_append,List.map_singleton,←te2.1,hsc];exact hA54),hr40,(by simp;omega),(by simpa only[Nat.add_comm,Nat.add_left_comm,Nat.add_assoc]using hinv),Qk⟩
   ·replace h38:=of_decide_eq_false h38;refine Uz ?_;show W _ _ _ _ _ _ _;refine Qg 5 K M fun _ K=>?_;refine Zb K rfl (fun h59=>?_) fun h59=>?_
    ·replace h59:=of_decide_eq_true h59;refine JK ?_;refine QU (l:=[(0,0),(1,0),(2,0),(3,0),(4,0),(5,0),(6,0)]) (by kernel_rfl) ?_;refine Ue 7 K M fun _ K=>?_;refine QZ ?_;show W _ _ _ _ _ _ _;refine UR ⟨.inr rfl,_,(Vj (JX K rfl) (JX K rfl) (JX K rfl)),?_⟩;rw[show(each (bytesOf l)).1.drop k=[]from List.drop_eq_nil_of_le Qk,Ge]at hinv;obtain⟨q,hq⟩:=Kw h59;rw[Cp (by rw[Jd];omega) hinv.symm hq,hq];exact⟨.nils,rfl,⟨[],.none,fun _ _ _ h=>by cases h⟩,M.qt⟩
    ·replace h59:=of_decide_eq_false h59;refine Qg 2 K M fun _ K=>?_;refine p1 K (Ad ZQ rfl rfl) fun _ K=>?_;refine au 2 K M ?_;intro c68 _ _ K _ M;refine F1 (k2:=0) (L:=((c68,0,[iZ 4,.str [],iZ 0,iZ ((l).length:Nat)])::(c15,0,[.str l,ks20,iZ (Jx (each (bytesOf l)).2),iN k])::(A20++[]))) (B:=[]) K (Mem.cast M (by simp only[List.append_assoc,List.cons_append,List.nil_append,List.append_nil])) hA Wh rfl rfl rfl rfl (by simp only[List.length_map];omega) rfl fun ks69 A69 _ _ K hA69 M=>?_;replace M:=Mem.cast (M':=((c68,0,[iZ 4,.str [],iZ 0,iZ ((l).length:Nat)])::(c15,0,[.str l,ks20,iZ (Jx (each (bytesOf l)).2),iN k])::(A20++(A69++[])))) M (by simp only[List.append_assoc,List.cons_append,List.nil_append,List.append_nil]);refine Qg 1 K M fun _ K=>?_;refine p1 K (Ad ZQ rfl rfl) fun _ K=>?_;refine Qg 3 K M fun _ K=>?_;refine UR ⟨.inr rfl,_,(Vj (JX K rfl) (JX K rfl) (JX K rfl)),?_⟩;rw[show(each (bytesOf l)).1.drop k=[]from List.drop_eq_nil_of_le Qk,Ge]at hinv;rw[Nf (by rw[Jd];omega) hinv.symm (Kx h59),Jd];refine⟨_,rfl,?_,M.qt⟩;rw[List.map_append]
     have hE:[Wy (bytesOf l)].map Uy.cells=[[iZ 4,.str [],iZ 0,iZ (l.length:Int)]]:=by simp[Wy,Uy.cells,Jd,Ym]
     rw[hE];exact Mem.lN (L:=((c68,0,[iZ 4,.str [],iZ 0,iZ ((l).length:Nat)])::(c15,0,[.str l,ks20,iZ (Jx (each (bytesOf l)).2),iN k])::(A20++[]))) (B:=[]) (Mem.cast M (by simp only[List.append_assoc,List.cons_append,List.nil_append,List.append_nil])) hA69
end Go.Proofs.YthjgndgnmkiaiaaGreatDoor
