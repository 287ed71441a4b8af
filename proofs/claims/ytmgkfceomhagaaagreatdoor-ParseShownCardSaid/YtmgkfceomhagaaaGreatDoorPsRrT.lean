/-
  The reader of 'sibylref2': 'Tokens', 'IsName'; the program's 'isName'.
-/
import Derived.Test.YtmgkfceomhagaaaGreatDoorPsTokEq
namespace Go.Proofs.YtmgkfceomhagaaaGreatDoor
open Go Go.RowKit
set_option maxHeartbeats 8000000
set_option linter.unusedVariables false
set_option linter.unusedSimpArgs false
set_option maxRecDepth 100000
variable {p:Nat} {st:St}

theorem xG(hf:QC st)(l:List Nat)(hl:l.length≤2000): ∃v st',Ev Tryz.prog Jy 47 [.str l] st v st'∧ ∃ks,v=.tup [ks,.int .i64 (JR (each (bytesOf l)).2)]∧Su st st' 2 ks ((each (bytesOf l)).1.map XW)∧Qt st st':=by
 have hlen:=EC (bytesOf l) (bytesOf l).size 0;have hlen:(each (bytesOf l)).1.length≤(bytesOf l).size:=hlen;rw[J7]at hlen
 obtain⟨ks,st',h1,h2,h3⟩:=GU (P:=Tryz.prog) (G:=Jy) (f:=47) (F:=Dd) (z:=2) (ls:=(each (bytesOf l)).1.map XW) (rest:=[.int .i64 (JR (each (bytesOf l)).2)]) rfl hf (args:=[.str l]) (fun cs hc=>by
  obtain⟨x,_,rfl⟩:=List.mem_map.1 hc;rfl) (by simp;omega) (by
  unfold Dd;simp only[Nat.ble_eq_true_of_le (show l.length≤100000 by omega),Jg,List.length_map]
  rfl)
 exact⟨_,st',h1,ks,rfl,h2,h3⟩
theorem TX(hf:QC st)(l:List Nat)(hb:(tokens (bytesOf l)).1.length≤1000000): ∃v st',Ev Tryz.prog Jy 19 [.str l] st v st'∧ ∃ks,v=.tup [ks,.int .i64 (tokens (bytesOf l)).2.1,.int .i64 (tokens (bytesOf l)).2.2]∧Su st st' 4 ks ((tokens (bytesOf l)).1.map US.cells)∧Qt st st':=by
 obtain⟨ks,st',h1,h2,h3⟩:=GU (P:=Tryz.prog) (G:=Jy) (f:=19) (F:=Iu) (z:=4) (ls:=(tokens (bytesOf l)).1.map US.cells) (rest:=[.int .i64 (tokens (bytesOf l)).2.1,.int .i64 (tokens (bytesOf l)).2.2]) rfl hf (args:=[.str l]) (fun cs hc=>by
  obtain⟨x,_,rfl⟩:=List.mem_map.1 hc;rfl) (Nat.le_trans (by simpa using hb) (by decide:(1000000:Nat)≤1000000000)) (by
  unfold Iu;simp only[List.length_map]
  rfl)
 exact⟨_,st',h1,ks,rfl,h2,h3⟩
theorem uF(s:ByteArray)(fin:Nat): ∀(f:Nat) (r:List (Nat×Nat)) (l:List US),(Vs s fin f r).1=some l→l.length≤r.length:=by
 intro f
 induction f with
 |zero=>intro r l h;injection h with h;subst h;simp
 |succ f ih=>
  intro r l h
  cases r with
  |nil=>injection h with h;subst h;simp
  |cons x r=>
   rw[Vs]at h
   split at h
   ·rename_i hok;have hp:=No s fin (x::r) hok;simp only at h
    cases hx:(Vs s fin f (((x::r).drop (Z7 s fin (x::r)).len).drop (QW false ((x::r).drop (Z7 s fin (x::r)).len)))).1 with
    |none=>rw[hx]at h;cases h
    |some l'=>
     rw[hx]at h
     injection h with h
     subst h;have:=ih _ _ hx;simp only[List.length_drop,List.length_cons]at this ⊢;omega
   ·cases h
theorem Hk(s:ByteArray):(tokens s).1.length≤2001:=by
 unfold tokens
 split
 ·simp
 ·rename_i hs;have hlen:=EC s s.size 0;have hlen:(each s).1.length≤s.size:=hlen
  split
  ·simp
  ·rename_i l x h
   split
   ·simp
   ·have:=uF _ _ _ _ l (by rw[h]);simp only[List.length_drop,List.length_append,List.length_cons,List.length_nil]at this ⊢;omega
theorem Rp(l:List Nat)(bad:Option Nat)(L:List (Nat×Nat))(n:Nat): ∃k t m p,(E3 l bad L n).1=[.int .i64 k,.str t,.int .i64 m,.int .i64 p]:=by
 unfold E3
 split
 ·exact⟨_,_,_,_,rfl⟩
 ·split
  ·exact⟨_,_,_,_,rfl⟩
  ·obtain⟨a,b,c,h⟩:=Le l bad L n;exact⟨a,b,0,c,h⟩
theorem OI.new{g:Nat}{l:List Nat}{ks:AV}(hl:l.length≤2000)(hr:Jh st.h.get g 0 [.str l,ks,.int .i64 (JR (each (bytesOf l)).2),.int .i64 ((0:Nat):Int)])(hk:QQ st.h.get [g] 2 ((each (bytesOf l)).1.map XW) ks):OI st.h.get g l ks (each (bytesOf l)).1 (each (bytesOf l)).2 0:=by
 have hlen:=EC (bytesOf l) (bytesOf l).size 0;have hlen:(each (bytesOf l)).1.length≤(bytesOf l).size:=hlen;rw[J7]at hlen;refine⟨hr,hk,by omega,Nat.zero_le _,by omega,fun i j hij=>?_⟩;have:=Z2 (bytesOf l) i j hij;rw[J7]at this;exact this
theorem Acc.apart{h0:Hp}{n0 n1 z:Nat}{X:List Nat}{L A B:List (Nat×Nat×List AV)}{ks:AV}{ls:List (List AV)}(hM:Mem h0 n0 X st (L++(A++B)))(hA:Acc n1 z A ks ls){k c m:Nat}{l:List AV}(hk:L[k]? =some (c,m,l)):QQ st.h.get [c] z ls ks:=by
 have r:=hM.xX hA
 cases hA with
 |none=>exact .nil _ _ _
 |own hc hz hb=>
  rename_i c' m';refine QQ.own (hM.row c' m' _ Q3) hz ?_ Qq;simp only[List.mem_singleton];intro e;subst e;have hn:=hM.nodup;rw[List.map_append,List.nodup_append]at hn;exact hn.2.2 c' (List.mem_map.2 ⟨_,List.mem_of_getElem? hk,rfl⟩) c' Q3 rfl
theorem Pq(x:Option (List US)×Nat):comb [] x=x:=by
 obtain⟨y1,y2⟩:=x
 cases y1<;>simp[comb]
theorem Ij{s:ByteArray}(h:2000<s.size):tokens s=([],0,3):=by rw[tokens,if_pos h]
theorem Bu{s:ByteArray}(h: ¬2000<s.size)(hx:Vs s (Jq s (each s).2) ((each s).1.length+1) ((each s).1.drop (QW false (each s).1))=(none,p)):tokens s=([],p,2):=by
 rw[tokens,if_neg h,hx]
theorem Bs{s:ByteArray}{a:List US}{q:Nat}(h: ¬2000<s.size)(hx:Vs s (Jq s (each s).2) ((each s).1.length+1) ((each s).1.drop (QW false (each s).1))=(some a,p))(hq:(each s).2=some q):tokens s=([],q,2):=by
 rw[tokens,if_neg h,hx];simp only[hq]
theorem LG{s:ByteArray}{a:List US}(h: ¬2000<s.size)(hx:Vs s (Jq s (each s).2) ((each s).1.length+1) ((each s).1.drop (QW false (each s).1))=(some a,p))(hq:(each s).2=none):tokens s=(a++[WM s],s.size,0):=by
 rw[tokens,if_neg h,hx];simp only[hq]

theorem N2(hf:QC st)(l:List Nat)(hB:Bytes l): ∃v st',Ev Tryz.prog Jy 21 [.str l] st v st'∧ ∃ks,v=.tup [ks,iZ (tokens (bytesOf l)).2.1,iZ (tokens (bytesOf l)).2.2]∧Su st st' 4 ks ((tokens (bytesOf l)).1.map US.cells)∧Qt st st':=by
 have hEl:(each (bytesOf l)).1.length≤l.length:=by
  have h:=EC (bytesOf l) (bytesOf l).size 0;have h:(each (bytesOf l)).1.length≤(bytesOf l).size:=h;rw[J7]at h;exact h
 have hmp:((each (bytesOf l)).1.map XW).length=(each (bytesOf l)).1.length:=by simp
 refine Zw Tryz.func21 Tryz.ntmps21 fun T K=>?_;have M:=Mem.start hf;refine Qf 4 K M fun _ K=>?_;refine p1 K (X5 UF rfl rfl) fun _ K=>?_;refine Qf 1 K M fun _ K=>?_;refine Uj K rfl (fun h12=>?_) fun h12=>?_
 · replace h12:=of_decide_eq_true h12;refine Qf 3 K M fun _ K=>?_;refine JX ⟨.inr rfl,_,(Yc (J6 K rfl) (J6 K rfl) (J6 K rfl)),?_⟩;rw[Ij (by rw[J7];omega)];exact⟨.nils,rfl,⟨[],.none,fun _ _ _ h=>by cases h⟩,M.qt⟩
 · replace h12:=of_decide_eq_false h12;refine au 7 K M ?_;intro c15 _ _ K _ M;obtain⟨v20,st20,ev20,ks20,rfl,nr20,q20⟩:=xG M.fresh l Qq;refine p1 K (Qe rfl ev20) fun _ K=>?_;obtain⟨A20,hA20,M⟩:=M.Ke q20 nr20;refine Qf 5 K M fun _ K=>?_;refine Gl (k:=0) K M rfl rfl rfl FT (hA20.cell) rfl fun _ M=>?_;refine au 5 K M ?_;intro _ _ K _ M;obtain⟨v28,st28,ev28,rfl,q28,r28⟩:=Dh M.fresh (OI.new Qq (M.Ql (k:=0) rfl) (Acc.apart (L:=[(c15,0,[.str l,ks20,iZ (JR (each (bytesOf l)).2),iZ 0])]) (B:=[]) M hA20 (k:=0) rfl));refine p1 K (Qe rfl ev28) fun _ K=>?_;have hrow28:=r28.row;have hle28:=r28.le;replace M:=M.J8 (k:=0) rfl q28 hrow28;refine Qf 0 K M fun _ K=>?_;refine UM (fun mm1 T st9=> ∃(k f:Nat) (acc:List US) (ks:AV) (A:List (Nat×Nat×List AV)),mm1=(each (bytesOf l)).1.length-k∧JC [(0,.str l),(5,.ptr c15 0 0),(6,ks)] T∧Mem st.h.get st.n [] st9 ((c15,0,[.str l,ks20,iZ (JR (each (bytesOf l)).2),iN k])::(A20++(A++[])))∧Acc st.n 4 A ks (acc.map US.cells)∧k≤(each (bytesOf l)).1.length∧acc.length≤k∧comb acc (Vs (bytesOf l) (Jq (bytesOf l) (each (bytesOf l)).2) f ((each (bytesOf l)).1.drop k))=Vs (bytesOf l) (Jq (bytesOf l) (each (bytesOf l)).2) ((each (bytesOf l)).1.length+1) ((each (bytesOf l)).1.drop (QW false (each (bytesOf l)).1))∧(each (bytesOf l)).1.length<k+f) (fun mm1 T st9 hI=>?_) _ _ _ ⟨0+QW false ((each (bytesOf l)).1.drop 0),(each (bytesOf l)).1.length+1,[],.nils,[],rfl,(K.sub rfl),M.less (.refl _),.none,r28.le,(Nat.zero_le _),(by rw[Pq,Nat.zero_add,List.drop_zero]),Qq⟩;obtain⟨k,f,acc,ks,A,rfl,K,M,hA,hk,hacc,hinv,hf⟩:=hI;refine Ud<|Ud ?_;refine QR (l:=[(0,0),(1,0),(2,0),(3,0),(4,0),(5,0),(6,0),(7,0),(8,0),(9,0)]) (by kernel_rfl) ?_;refine JL 8 K M fun _ K=>?_;refine q1 rfl K (JJ YZ rfl rfl hA20.len) fun _ K=>q1 rfl K (R8 rfl rfl) fun _ K=>QY ?_;show W _ _ _ _ _ _ _;refine Uj K rfl (fun h38=>?_) fun h38=>?_
   ·replace h38:=of_decide_eq_true h38;refine Qf 1 K M fun _ K=>?_;refine oQ K M (SQ M.fresh (r28.next (M.Ql (k:=0) rfl) (Acc.apart (L:=[(c15,0,[.str l,ks20,iZ (JR (each (bytesOf l)).2),iN k])]) (B:=(A++[])) M hA20 (k:=0) rfl) Qq) Qq) rfl rfl fun _ _ K M=>?_;refine Qf 2 K M fun _ K=>?_;obtain⟨tk,tt,tm,tp,hsc⟩:=Rp l (each (bytesOf l)).2 (each (bytesOf l)).1 k;obtain⟨v45,st45,ev45,rfl,q45,r45⟩:=hsc▸Ml M.fresh (r28.next (M.Ql (k:=0) rfl) (Acc.apart (L:=[(c15,0,[.str l,ks20,iZ (JR (each (bytesOf l)).2),iN k])]) (B:=(A++[])) M hA20 (k:=0) rfl) Qq) Qq;refine p1 K (Qe rfl ev45) fun _ K=>?_;have hrow45:=r45.row;have hle45:=r45.le;replace M:=M.J8 (k:=0) rfl q45 hrow45;refine au 8 K M ?_;intro c8 _ _ K _ M;refine Uj K rfl (fun h49=>?_) fun h49=>?_
    ·replace h49:((E3 l (each (bytesOf l)).2 (each (bytesOf l)).1 k).2.1)=false:=by simpa using h49
     refine Qf 4 K M fun _ K=>?_;refine JX ⟨.inr rfl,_,(Yc (J6 K rfl) (J6 K rfl) (J6 K rfl)),?_⟩;obtain⟨f,rfl⟩: ∃f',f=f'+1:=⟨f-1,by omega⟩;obtain⟨te1,te2⟩:=qQ hB (n:=k) Qq;rw[h49]at te1;rw[Pr _ _ _ _ _ (by rw[List.length_drop];omega) te1.symm]at hinv;rw[Bu (by rw[J7];omega) hinv.symm,Z1,Nat.add_zero];exact⟨.nils,rfl,⟨[],.none,fun _ _ _ h=>by cases h⟩,M.qt⟩
    ·replace h49:((E3 l (each (bytesOf l)).2 (each (bytesOf l)).1 k).2.1)=true:=by simpa using h49
     refine au 3 K M ?_;intro c53 _ _ K _ M;refine XQ (k2:=0) (L:=((c53,0,[iZ tk,.str tt,iZ tm,iZ tp])::(c8,0,[iZ tk,.str tt,iZ tm,iZ tp])::(c15,0,[.str l,ks20,iZ (JR (each (bytesOf l)).2),iZ (k+(E3 l (each (bytesOf l)).2 (each (bytesOf l)).1 k).2.2:Nat)])::(A20++[]))) (B:=[]) K (Mem.cast M (by simp only[List.append_assoc,List.cons_append,List.nil_append,List.append_nil]<;>rfl)) hA W8 rfl rfl rfl rfl (by simp only[List.length_map];omega) rfl fun ks54 A54 _ _ K hA54 M=>?_;replace M:=Mem.cast (M':=((c53,0,[iZ tk,.str tt,iZ tm,iZ tp])::(c8,0,[iZ tk,.str tt,iZ tm,iZ tp])::(c15,0,[.str l,ks20,iZ (JR (each (bytesOf l)).2),iZ (k+(E3 l (each (bytesOf l)).2 (each (bytesOf l)).1 k).2.2:Nat)])::(A20++(A54++[])))) M (by simp only[List.append_assoc,List.cons_append,List.nil_append,List.append_nil]);refine Qf 2 K M fun _ K=>?_;obtain⟨v40,st40,ev40,rfl,q40,r40⟩:=Dh M.fresh (r28.next (M.Ql (k:=2) rfl) (Acc.apart (L:=[(c53,0,[iZ tk,.str tt,iZ tm,iZ tp]),(c8,0,[iZ tk,.str tt,iZ tm,iZ tp]),(c15,0,[.str l,ks20,iZ (JR (each (bytesOf l)).2),iZ (k+(E3 l (each (bytesOf l)).2 (each (bytesOf l)).1 k).2.2:Nat)])]) (B:=(A54++[])) M hA20 (k:=2) rfl) Qq);refine p1 K (Qe rfl ev40) fun _ K=>?_;have hrow40:=r40.row;have hle40:=r40.le;replace M:=M.J8 (k:=2) rfl q40 hrow40;refine Xs ?_;obtain⟨f,rfl⟩: ∃f',f=f'+1:=⟨f-1,by omega⟩;obtain⟨te1,te2⟩:=qQ hB (n:=k) Qq;rw[h49]at te1;replace te2:=te2 te1.symm;have tp1:=No _ _ _ te1.symm;have hr40:=r40.le;rw[Cr _ _ _ _ _ (by rw[List.length_drop];omega) te1.symm]at hinv;simp only[List.drop_drop]at hinv;rw[←te2.2]at hinv;exact⟨_,Qq,_,f,acc++[Z7 (bytesOf l) (Jq (bytesOf l) (each (bytesOf l)).2) ((each (bytesOf l)).1.drop k)],ks54,A54,rfl,(K.sub rfl),M.less (.cons _ (.cons _ (.refl _))),(by rw[List.map_append,List.map_singleton,←te2.1,hsc];exact hA54),hr40,(by simp;omega),(by simpa only[Nat.add_comm,Nat.add_left_comm,Nat.add_assoc]using hinv),Qq⟩
   ·replace h38:=of_decide_eq_false h38;refine Un ?_;show W _ _ _ _ _ _ _;refine Qf 5 K M fun _ K=>?_;refine Uj K rfl (fun h59=>?_) fun h59=>?_
    ·replace h59:=of_decide_eq_true h59;refine Ud ?_;refine QR (l:=[(0,0),(1,0),(2,0),(3,0),(4,0),(5,0),(6,0)]) (by kernel_rfl) ?_;refine JL 7 K M fun _ K=>?_;refine QY ?_;show W _ _ _ _ _ _ _;refine JX ⟨.inr rfl,_,(Yc (J6 K rfl) (J6 K rfl) (J6 K rfl)),?_⟩;rw[show(each (bytesOf l)).1.drop k=[]from List.drop_eq_nil_of_le Qq,O3]at hinv;obtain⟨q,hq⟩:=Kh h59;rw[Bs (by rw[J7];omega) hinv.symm hq,hq];exact⟨.nils,rfl,⟨[],.none,fun _ _ _ h=>by cases h⟩,M.qt⟩
    ·replace h59:=of_decide_eq_false h59;refine Qf 2 K M fun _ K=>?_;refine p1 K (X5 UF rfl rfl) fun _ K=>?_;refine au 2 K M ?_;intro c68 _ _ K _ M;refine XQ (k2:=0) (L:=((c68,0,[iZ 4,.str [],iZ 0,iZ ((l).length:Nat)])::(c15,0,[.str l,ks20,iZ (JR (each (bytesOf l)).2),iN k])::(A20++[]))) (B:=[]) K (Mem.cast M (by simp only[List.append_assoc,List.cons_append,List.nil_append,List.append_nil]<;>rfl)) hA W8 rfl rfl rfl rfl (by simp only[List.length_map];omega) rfl fun ks69 A69 _ _ K hA69 M=>?_;replace M:=Mem.cast (M':=((c68,0,[iZ 4,.str [],iZ 0,iZ ((l).length:Nat)])::(c15,0,[.str l,ks20,iZ (JR (each (bytesOf l)).2),iN k])::(A20++(A69++[])))) M (by simp only[List.append_assoc,List.cons_append,List.nil_append,List.append_nil]);refine Qf 1 K M fun _ K=>?_;refine p1 K (X5 UF rfl rfl) fun _ K=>?_;refine Qf 3 K M fun _ K=>?_;refine JX ⟨.inr rfl,_,(Yc (J6 K rfl) (J6 K rfl) (J6 K rfl)),?_⟩;rw[show(each (bytesOf l)).1.drop k=[]from List.drop_eq_nil_of_le Qq,O3]at hinv;rw[LG (by rw[J7];omega) hinv.symm (Ki h59),J7];refine⟨_,rfl,?_,M.qt⟩;rw[List.map_append]
     have hE:[WM (bytesOf l)].map US.cells=[[iZ 4,.str [],iZ 0,iZ (l.length:Int)]]:=by simp[WM,US.cells,J7,Y4]
     rw[hE];exact Mem.aU (L:=((c68,0,[iZ 4,.str [],iZ 0,iZ ((l).length:Nat)])::(c15,0,[.str l,ks20,iZ (JR (each (bytesOf l)).2),iN k])::(A20++[]))) (B:=[]) (Mem.cast M (by simp only[List.append_assoc,List.cons_append,List.nil_append,List.append_nil])) hA69
end Go.Proofs.YtmgkfceomhagaaaGreatDoor
